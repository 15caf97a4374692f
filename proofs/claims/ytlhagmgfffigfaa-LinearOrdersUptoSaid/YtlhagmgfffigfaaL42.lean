/- Function 42, as a function of data: its own run; its contract. Printed by a program. Conditions: none. -/
import Derived.Test.YtlhagmgfffigfaaTy
import Derived.Test.YtlhagmgfffigfaaL12
set_option maxRecDepth 100000
set_option linter.unusedVariables false
namespace Go.Proofs.Ytlhagmgfffigfaa
open Go Go.Abs
namespace L
noncomputable def r42_l4 (n : Nat) (x0_l4 : List (El t82)) (x1_l4 : List (El t82)) (x2_l4 : Int) (x3_l4 : Int) (x4_l4 : List (El t82 × Bool × Int) × Int) : Option
  ((List (El t82) × Unit × List (El t82) × Int × Int × Unit) ×
      Unit × (List (El t82 × Bool × Int) × Int) × Unit ⊕
    (List (El t82) × Unit × Unit) ×
        Unit × (List (El t82 × Bool × Int) × Int) × Unit ⊕
      Bool × Unit) :=
  iff (!leQ x2_l4 x3_l4)
  (andThen (inRange x3_l4 (List.length x1_l4)) fun (j8 : Nat) =>
    andThen (nthQ j8 x1_l4) fun (y9 : El t82) =>
      Option.some
        (Sum.inl
          ((x0_l4, PUnit.unit, x1_l4, x2_l4, wrapQ Go.IntKind.i64 (Int.add x3_l4 (Int.ofNat 1)), PUnit.unit), PUnit.unit,
            putX
              (Ty.pair (Ty.int Go.IntKind.i64)
                (Ty.pair (Ty.int Go.IntKind.i64) (Ty.pair (Ty.int Go.IntKind.u8) Ty.unit)))
              Ty.bool y9 Bool.true x4_l4,
            PUnit.unit)))
  (Option.some (Sum.inr (Sum.inl ((x0_l4, PUnit.unit, PUnit.unit), PUnit.unit, x4_l4, PUnit.unit))))
noncomputable def r42_l9 (n : Nat) (x0_l9 : List (El t82)) (x1_l9 : Int) (x2_l9 : Int) (x3_l9 : List (El t82 × Bool × Int) × Int) : Option
  ((Unit × List (El t82) × Int × Int × Unit) ×
      Unit × (List (El t82 × Bool × Int) × Int) × Unit ⊕
    (Unit × Unit) × Unit × (List (El t82 × Bool × Int) × Int) × Unit ⊕ Bool × Unit) :=
  iff (!leQ x1_l9 x2_l9)
  (andThen (inRange x2_l9 (List.length x0_l9)) fun (j16 : Nat) =>
    andThen (nthQ j16 x0_l9) fun (y17 : El t82) =>
      iff
        (!getX
            (Ty.pair (Ty.int Go.IntKind.i64)
              (Ty.pair (Ty.int Go.IntKind.i64) (Ty.pair (Ty.int Go.IntKind.u8) Ty.unit)))
            Ty.bool y17 Bool.false x3_l9.1)
        (Option.some (Sum.inr (Sum.inr (Bool.false, PUnit.unit))))
        (Option.some
          (Sum.inl
            ((PUnit.unit, x0_l9, x1_l9, wrapQ Go.IntKind.i64 (Int.add x2_l9 (Int.ofNat 1)), PUnit.unit), PUnit.unit,
              outX
                (Ty.pair (Ty.int Go.IntKind.i64)
                  (Ty.pair (Ty.int Go.IntKind.i64) (Ty.pair (Ty.int Go.IntKind.u8) Ty.unit)))
                Ty.bool y17 x3_l9,
              PUnit.unit))))
  (Option.some (Sum.inr (Sum.inl ((PUnit.unit, PUnit.unit), PUnit.unit, x3_l9, PUnit.unit))))
noncomputable def r42_j15 (n : Nat) (x0_j15 : List (El t82 × Bool × Int) × Int) : Option (Bool × Unit) :=
  Option.some (eqQ (Int.ofNat (List.length x0_j15.1)) (Int.ofNat 0), PUnit.unit)
noncomputable def r42_j8 (n : Nat) (x0_j8 : List (El t82)) (x1_j8 : List (El t82 × Bool × Int) × Int) : Option (Bool × Unit) :=
  andThen
  (iterF
    (fun
        (x :
          (Unit × List (El t82) × Int × Int × Unit) ×
            Unit × (List (El t82 × Bool × Int) × Int) × Unit) =>
      r42_l9 n (Prod.fst (Prod.snd (Prod.fst x))) (Prod.fst (Prod.snd (Prod.snd (Prod.fst x))))
        (Prod.fst (Prod.snd (Prod.snd (Prod.snd (Prod.fst x))))) (Prod.fst (Prod.snd (Prod.snd x))))
    n ((PUnit.unit, x0_j8, Int.ofNat (List.length x0_j8), Int.ofNat 0, PUnit.unit), PUnit.unit, x1_j8, PUnit.unit))
  (sumK fun (x : (Unit × Unit) × Unit × (List (El t82 × Bool × Int) × Int) × Unit) =>
    r42_j15 n (Prod.fst (Prod.snd (Prod.snd x))))
noncomputable def r42c (n : Nat) (x0 : List (El t80)) (x1 : List (El t82)) : Option (Bool × Unit) :=
  andThen (r12 n (x0, PUnit.unit)) fun (y2 : ElL (Con.B (r12k n))) =>
  andThen
    (iterF
      (fun
          (x :
            (List (El t82) × Unit × List (El t82) × Int × Int × Unit) ×
              Unit × (List (El t82 × Bool × Int) × Int) × Unit) =>
        r42_l4 n (Prod.fst (Prod.fst x)) (Prod.fst (Prod.snd (Prod.snd (Prod.fst x)))) (Prod.fst (Prod.snd (Prod.snd (Prod.snd (Prod.fst x)))))
          (Prod.fst (Prod.snd (Prod.snd (Prod.snd (Prod.snd (Prod.fst x)))))) (Prod.fst (Prod.snd (Prod.snd x))))
      n ((x1, PUnit.unit, y2.1, Int.ofNat (List.length y2.1), Int.ofNat 0, PUnit.unit), PUnit.unit, ([], Int.ofNat 0), PUnit.unit))
    (sumK
      fun
        (x :
          (List (El t82) × Unit × Unit) ×
            Unit × (List (El t82 × Bool × Int) × Int) × Unit) =>
      r42_j8 n (Prod.fst (Prod.fst x)) (Prod.fst (Prod.snd (Prod.snd x))))
noncomputable def r42 (n : Nat) (a : ElL [t33, t36]) : Option (ElL [t4]) := r42c n (a.1) (a.2.1)
noncomputable def r42p : Plan := ⟨[(4, Cut.mk
  [(1, Shp.d (Ty.slice t82)), (7, Shp.mat 0),
    (18, Shp.d (Ty.slice t82)), (19, Shp.d (Ty.int Go.IntKind.i64)),
    (20, Shp.d (Ty.int Go.IntKind.i64))]
  []
  [(0,
      Shp.mp
        (Ty.pair (Ty.int Go.IntKind.i64)
          (Ty.pair (Ty.int Go.IntKind.i64) (Ty.pair (Ty.int Go.IntKind.u8) Ty.unit)))
        Ty.bool)]
  1), (9, Cut.mk
  [(7, Shp.mat 0), (27, Shp.d (Ty.slice t82)), (28, Shp.d (Ty.int Go.IntKind.i64)),
    (29, Shp.d (Ty.int Go.IntKind.i64))]
  []
  [(0,
      Shp.mp
        (Ty.pair (Ty.int Go.IntKind.i64)
          (Ty.pair (Ty.int Go.IntKind.i64) (Ty.pair (Ty.int Go.IntKind.u8) Ty.unit)))
        Ty.bool)]
  1)], [(8, Cut.mk [(1, Shp.d (Ty.slice t82)), (7, Shp.mat 0)] []
  [(0,
      Shp.mp
        (Ty.pair (Ty.int Go.IntKind.i64)
          (Ty.pair (Ty.int Go.IntKind.i64) (Ty.pair (Ty.int Go.IntKind.u8) Ty.unit)))
        Ty.bool)]
  1), (15, Cut.mk [(7, Shp.mat 0)] []
  [(0,
      Shp.mp
        (Ty.pair (Ty.int Go.IntKind.i64)
          (Ty.pair (Ty.int Go.IntKind.i64) (Ty.pair (Ty.int Go.IntKind.u8) Ty.unit)))
        Ty.bool)]
  1)], []⟩
noncomputable def r42k (n : Nat) : Con := ⟨42, [t33, t36], [t4], r42 n, false, none⟩
theorem r42_ok (n : Nat) : SpecSim Try.prog noG 42 (Con.spec (r42k n)) :=
  lift_ok (tab := [r12k n]) (fn := Try.f42) r42p n mix Tb.tys (Cons.all (.cons (r12_ok n) .nil)) Try.func42 rfl (by kernel_rfl) (fun h => by cases h) (fun ⟨x0, x1, _⟩ => by kernel_rfl)
end L
end Go.Proofs.Ytlhagmgfffigfaa
