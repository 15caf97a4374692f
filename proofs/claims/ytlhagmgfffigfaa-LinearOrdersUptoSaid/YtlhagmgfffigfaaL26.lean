/- Function 26, as a function of data: its own run; its contract. Printed by a program. Conditions: none. -/
import Derived.Test.YtlhagmgfffigfaaTy
import Derived.Test.YtlhagmgfffigfaaL18
import Derived.Test.YtlhagmgfffigfaaL42
import Derived.Test.YtlhagmgfffigfaaL41
set_option maxRecDepth 100000
set_option linter.unusedVariables false
namespace Go.Proofs.Ytlhagmgfffigfaa
open Go Go.Abs
namespace L
noncomputable def r26_j14 (n : Nat) (x0_j14 : List (El t80)) (x1_j14 : List (El t82)) (x2_j14 : List (El t82)) (x3_j14 : Int) (x4_j14 : Int) (x5_j14 : List (El t82)) (x6_j14 : Int) (x7_j14 : Int) (x8_j14 : Bool) (x9_j14 : El t82) : Option
  ((List (El t80) ×
        List (El t82) ×
          Unit ×
            List (El t82) × Int × Int × List (El t82) × Int × Int × Unit) ×
      Unit × El t82 × Unit ⊕
    (List (El t80) ×
          List (El t82) × List (El t82) × Int × Int × Unit) ×
        Unit × Unit ⊕
      (List (El t80) ×
            List (El t82) × List (El t82) × Int × Int × Unit) ×
          Unit × Unit ⊕
        Unit × Unit × Unit ⊕ Bool × Int × Unit) :=
  iff x8_j14 (Option.some (Sum.inr (Sum.inr (Sum.inr (Sum.inr (Bool.false, Int.ofNat 0, PUnit.unit))))))
  (Option.some
    (Sum.inl
      ((x0_j14, x1_j14, PUnit.unit, x2_j14, x3_j14, x4_j14, x5_j14, x6_j14, wrapQ Go.IntKind.i64 (Int.add x7_j14 (Int.ofNat 1)), PUnit.unit),
        PUnit.unit, x9_j14, PUnit.unit)))
noncomputable def r26_l10 (n : Nat) (x0_l10 : List (El t80)) (x1_l10 : List (El t82)) (x2_l10 : List (El t82)) (x3_l10 : Int) (x4_l10 : Int) (x5_l10 : List (El t82)) (x6_l10 : Int) (x7_l10 : Int) (x8_l10 : El t82) : Option
  ((List (El t80) ×
        List (El t82) ×
          Unit ×
            List (El t82) × Int × Int × List (El t82) × Int × Int × Unit) ×
      Unit × El t82 × Unit ⊕
    (List (El t80) ×
          List (El t82) × List (El t82) × Int × Int × Unit) ×
        Unit × Unit ⊕
      (List (El t80) ×
            List (El t82) × List (El t82) × Int × Int × Unit) ×
          Unit × Unit ⊕
        Unit × Unit × Unit ⊕ Bool × Int × Unit) :=
  iff (!leQ x6_l10 x7_l10)
  (andThen (inRange x7_l10 (List.length x5_l10)) fun (j21 : Nat) =>
    andThen (nthQ j21 x5_l10) fun (y22 : El t82) =>
      andThen (r18 n (x0_l10, y22.2.1, x8_l10.2.1, PUnit.unit))
        fun (y23 : ElL (Con.B (r18k n))) =>
        andThen
          (iff y23.1
            (Option.some
              (Sum.inl
                ((x0_l10, x1_l10, PUnit.unit, x2_l10, x3_l10, x4_l10, x5_l10, x6_l10, x7_l10, Bool.true, PUnit.unit), PUnit.unit, x8_l10,
                  PUnit.unit)))
            (iff (eqQ x8_l10.2.1 y22.2.1)
              (Option.some
                (Sum.inl
                  ((x0_l10, x1_l10, PUnit.unit, x2_l10, x3_l10, x4_l10, x5_l10, x6_l10, x7_l10, eqQ x8_l10.2.2.1 (Int.ofNat 2), PUnit.unit),
                    PUnit.unit, x8_l10, PUnit.unit)))
              (Option.some
                (Sum.inl
                  ((x0_l10, x1_l10, PUnit.unit, x2_l10, x3_l10, x4_l10, x5_l10, x6_l10, x7_l10, Bool.false, PUnit.unit), PUnit.unit, x8_l10,
                    PUnit.unit)))))
          (sumK
            fun
              (x :
                (List (El t80) ×
                    List (El t82) ×
                      Unit ×
                        List (El t82) ×
                          Int × Int × List (El t82) × Int × Int × Bool × Unit) ×
                  Unit × El t82 × Unit) =>
            r26_j14 n (Prod.fst (Prod.fst x)) (Prod.fst (Prod.snd (Prod.fst x))) (Prod.fst (Prod.snd (Prod.snd (Prod.snd (Prod.fst x)))))
              (Prod.fst (Prod.snd (Prod.snd (Prod.snd (Prod.snd (Prod.fst x))))))
              (Prod.fst (Prod.snd (Prod.snd (Prod.snd (Prod.snd (Prod.snd (Prod.fst x)))))))
              (Prod.fst (Prod.snd (Prod.snd (Prod.snd (Prod.snd (Prod.snd (Prod.snd (Prod.fst x))))))))
              (Prod.fst (Prod.snd (Prod.snd (Prod.snd (Prod.snd (Prod.snd (Prod.snd (Prod.snd (Prod.fst x)))))))))
              (Prod.fst (Prod.snd (Prod.snd (Prod.snd (Prod.snd (Prod.snd (Prod.snd (Prod.snd (Prod.snd (Prod.fst x))))))))))
              (Prod.fst (Prod.snd (Prod.snd (Prod.snd (Prod.snd (Prod.snd (Prod.snd (Prod.snd (Prod.snd (Prod.snd (Prod.fst x)))))))))))
              (Prod.fst (Prod.snd (Prod.snd x)))))
  (Option.some (Sum.inr (Sum.inl ((x0_l10, x1_l10, x2_l10, x3_l10, x4_l10, PUnit.unit), PUnit.unit, PUnit.unit))))
noncomputable def r26_j16 (n : Nat) (x0_j16 : List (El t80)) (x1_j16 : List (El t82)) (x2_j16 : List (El t82)) (x3_j16 : Int) (x4_j16 : Int) : Option
  ((List (El t80) ×
        List (El t82) × List (El t82) × Int × Int × Unit) ×
      Unit × Unit ⊕
    Unit × Unit × Unit ⊕ Bool × Int × Unit) :=
  Option.some
  (Sum.inl ((x0_j16, x1_j16, x2_j16, x3_j16, wrapQ Go.IntKind.i64 (Int.add x4_j16 (Int.ofNat 1)), PUnit.unit), PUnit.unit, PUnit.unit))
noncomputable def r26_l7 (n : Nat) (x0_l7 : List (El t80)) (x1_l7 : List (El t82)) (x2_l7 : List (El t82)) (x3_l7 : Int) (x4_l7 : Int) : Option
  ((List (El t80) ×
        List (El t82) × List (El t82) × Int × Int × Unit) ×
      Unit × Unit ⊕
    Unit × Unit × Unit ⊕ Bool × Int × Unit) :=
  iff (!leQ x3_l7 x4_l7)
  (andThen
    (andThen (inRange x4_l7 (List.length x2_l7)) fun (j9 : Nat) =>
      andThen (nthQ j9 x2_l7) fun (y10 : El t82) =>
        andThen (upTo (wrapQ Go.IntKind.i64 (Int.add x4_l7 (Int.ofNat 1))) (List.length x1_l7)) fun (j11 : Nat) =>
          iterF
            (fun
                (x :
                  (List (El t80) ×
                      List (El t82) ×
                        Unit ×
                          List (El t82) ×
                            Int × Int × List (El t82) × Int × Int × Unit) ×
                    Unit × El t82 × Unit) =>
              r26_l10 n (Prod.fst (Prod.fst x)) (Prod.fst (Prod.snd (Prod.fst x))) (Prod.fst (Prod.snd (Prod.snd (Prod.snd (Prod.fst x)))))
                (Prod.fst (Prod.snd (Prod.snd (Prod.snd (Prod.snd (Prod.fst x))))))
                (Prod.fst (Prod.snd (Prod.snd (Prod.snd (Prod.snd (Prod.snd (Prod.fst x)))))))
                (Prod.fst (Prod.snd (Prod.snd (Prod.snd (Prod.snd (Prod.snd (Prod.snd (Prod.fst x))))))))
                (Prod.fst (Prod.snd (Prod.snd (Prod.snd (Prod.snd (Prod.snd (Prod.snd (Prod.snd (Prod.fst x)))))))))
                (Prod.fst (Prod.snd (Prod.snd (Prod.snd (Prod.snd (Prod.snd (Prod.snd (Prod.snd (Prod.snd (Prod.fst x))))))))))
                (Prod.fst (Prod.snd (Prod.snd x))))
            n
            ((x0_l7, x1_l7, PUnit.unit, x2_l7, x3_l7, x4_l7, cutL j11 (List.length x1_l7) x1_l7,
                Int.ofNat (List.length (cutL j11 (List.length x1_l7) x1_l7)), Int.ofNat 0, PUnit.unit),
              PUnit.unit, y10, PUnit.unit))
    (sumK
      fun
        (x :
          (List (El t80) ×
              List (El t82) × List (El t82) × Int × Int × Unit) ×
            Unit × Unit) =>
      r26_j16 n (Prod.fst (Prod.fst x)) (Prod.fst (Prod.snd (Prod.fst x))) (Prod.fst (Prod.snd (Prod.snd (Prod.fst x))))
        (Prod.fst (Prod.snd (Prod.snd (Prod.snd (Prod.fst x))))) (Prod.fst (Prod.snd (Prod.snd (Prod.snd (Prod.snd (Prod.fst x))))))))
  (Option.some (Sum.inr (Sum.inl (PUnit.unit, PUnit.unit, PUnit.unit))))
noncomputable def r26_j17 (n : Nat) : Option (Bool × Int × Unit) :=
  Option.some (Bool.true, Int.ofNat 0, PUnit.unit)
noncomputable def r26c (n : Nat) (x0 : List (El t80)) (x1 : List (El t82)) : Option (Bool × Int × Unit) :=
  andThen (r41 n (x0, x1, PUnit.unit)) fun (y2 : ElL (Con.B (r41k n))) =>
  iff (!eqQ y2.1 (Int.ofNat 0)) (Option.some (Bool.false, y2.1, PUnit.unit))
    (andThen (r42 n (x0, x1, PUnit.unit))
      fun (y3 : ElL (Con.B (r42k n))) =>
      iff (!y3.1) (Option.some (Bool.false, Int.ofNat 2, PUnit.unit))
        (andThen
          (iterF
            (fun
                (x :
                  (List (El t80) ×
                      List (El t82) × List (El t82) × Int × Int × Unit) ×
                    Unit × Unit) =>
              r26_l7 n (Prod.fst (Prod.fst x)) (Prod.fst (Prod.snd (Prod.fst x))) (Prod.fst (Prod.snd (Prod.snd (Prod.fst x))))
                (Prod.fst (Prod.snd (Prod.snd (Prod.snd (Prod.fst x))))) (Prod.fst (Prod.snd (Prod.snd (Prod.snd (Prod.snd (Prod.fst x)))))))
            n ((x0, x1, x1, Int.ofNat (List.length x1), Int.ofNat 0, PUnit.unit), PUnit.unit, PUnit.unit))
          (sumK fun (x : Unit × Unit × Unit) => r26_j17 n)))
noncomputable def r26 (n : Nat) (a : ElL [t33, t36]) : Option (ElL [t4, t25]) := r26c n (a.1) (a.2.1)
noncomputable def r26p : Plan := ⟨[(7, Cut.mk
  [(0, Shp.d (Ty.slice t80)), (1, Shp.d (Ty.slice t82)),
    (23, Shp.d (Ty.slice t82)), (24, Shp.d (Ty.int Go.IntKind.i64)),
    (25, Shp.d (Ty.int Go.IntKind.i64))]
  [] [] 0), (10, Cut.mk
  [(0, Shp.d (Ty.slice t80)), (1, Shp.d (Ty.slice t82)),
    (8, Shp.at 0 0), (23, Shp.d (Ty.slice t82)), (24, Shp.d (Ty.int Go.IntKind.i64)),
    (25, Shp.d (Ty.int Go.IntKind.i64)), (33, Shp.d (Ty.slice t82)),
    (34, Shp.d (Ty.int Go.IntKind.i64)), (35, Shp.d (Ty.int Go.IntKind.i64))]
  [] [(0, Shp.d t82)] 1)], [(17, Cut.mk [] [] [] 0), (16, Cut.mk
  [(0, Shp.d (Ty.slice t80)), (1, Shp.d (Ty.slice t82)),
    (23, Shp.d (Ty.slice t82)), (24, Shp.d (Ty.int Go.IntKind.i64)),
    (25, Shp.d (Ty.int Go.IntKind.i64))]
  [] [] 0), (14, Cut.mk
  [(0, Shp.d (Ty.slice t80)), (1, Shp.d (Ty.slice t82)),
    (8, Shp.at 0 0), (23, Shp.d (Ty.slice t82)), (24, Shp.d (Ty.int Go.IntKind.i64)),
    (25, Shp.d (Ty.int Go.IntKind.i64)), (33, Shp.d (Ty.slice t82)),
    (34, Shp.d (Ty.int Go.IntKind.i64)), (35, Shp.d (Ty.int Go.IntKind.i64)), (60, Shp.d Ty.bool)]
  [] [(0, Shp.d t82)] 1)], []⟩
noncomputable def r26k (n : Nat) : Con := ⟨26, [t33, t36], [t4, t25], r26 n, false, none⟩
theorem r26_ok (n : Nat) : SpecSim Try.prog noG 26 (Con.spec (r26k n)) :=
  lift_ok (tab := [r18k n, r42k n, r41k n]) (fn := Try.f26) r26p n mix Tb.tys (Cons.all (.cons (r18_ok n) (.cons (r42_ok n) (.cons (r41_ok n) .nil)))) Try.func26 rfl (by kernel_rfl) (fun h => by cases h) (fun ⟨x0, x1, _⟩ => by kernel_rfl)
end L
end Go.Proofs.Ytlhagmgfffigfaa
