/- Function 29, as a function of data: its own run; its contract. Printed by a program. Conditions: none. -/
import Derived.Test.YtlhagmgfffigfaaTy
set_option maxRecDepth 100000
set_option linter.unusedVariables false
namespace Go.Proofs.Ytlhagmgfffigfaa
open Go Go.Abs
namespace L
noncomputable def r29_l4 (n : Nat) (x0_l4 : Int) (x1_l4 : El t64) (x2_l4 : El t64) : Option
  ((Unit × Unit × Int × Unit) × Unit × El t64 × El t64 × Unit ⊕
    Unit × Unit × Unit ⊕ Bool × Unit) :=
  iff (!leQ (Int.ofNat (List.length x1_l4.2.2.2.2.2.1)) x0_l4)
  (andThen (inRange x0_l4 (List.length x1_l4.2.2.2.2.2.1)) fun (j8 : Nat) =>
    andThen (nthQ j8 x1_l4.2.2.2.2.2.1) fun (y9 : El t58) =>
      andThen (inRange x0_l4 (List.length x2_l4.2.2.2.2.2.1)) fun (j10 : Nat) =>
        andThen (nthQ j10 x2_l4.2.2.2.2.2.1) fun (y11 : El t58) =>
          iff (!eqE (Ty.arr 32 (Ty.int Go.IntKind.u8)) y9 y11) (Option.some (Sum.inr (Sum.inr (Bool.false, PUnit.unit))))
            (Option.some
              (Sum.inl
                ((PUnit.unit, PUnit.unit, wrapQ Go.IntKind.i64 (Int.add x0_l4 (Int.ofNat 1)), PUnit.unit), PUnit.unit, x1_l4, x2_l4,
                  PUnit.unit))))
  (Option.some (Sum.inr (Sum.inl (PUnit.unit, PUnit.unit, PUnit.unit))))
noncomputable def r29_j8 (n : Nat) : Option (Bool × Unit) :=
  Option.some (Bool.true, PUnit.unit)
noncomputable def r29_j2 (n : Nat) (x0_j2 : Bool) (x1_j2 : El t64) (x2_j2 : El t64) : Option (Bool × Unit) :=
  iff x0_j2 (Option.some (Bool.false, PUnit.unit))
  (andThen
    (iterF
      (fun (x : (Unit × Unit × Int × Unit) × Unit × El t64 × El t64 × Unit) =>
        r29_l4 n (Prod.fst (Prod.snd (Prod.snd (Prod.fst x)))) (Prod.fst (Prod.snd (Prod.snd x))) (Prod.fst (Prod.snd (Prod.snd (Prod.snd x)))))
      n ((PUnit.unit, PUnit.unit, Int.ofNat 0, PUnit.unit), PUnit.unit, x1_j2, x2_j2, PUnit.unit))
    (sumK fun (x : Unit × Unit × Unit) => r29_j8 n))
noncomputable def r29c (n : Nat) (x0 : El t64) (x1 : El t64) : Option (Bool × Unit) :=
  andThen
  (iff (!eqQ x0.1 x1.1) (Option.some (Sum.inl ((PUnit.unit, PUnit.unit, Bool.true, PUnit.unit), PUnit.unit, x0, x1, PUnit.unit)))
    (iff (!eqE (Ty.arr 32 (Ty.int Go.IntKind.u8)) x0.2.1 x1.2.1)
      (Option.some (Sum.inl ((PUnit.unit, PUnit.unit, Bool.true, PUnit.unit), PUnit.unit, x0, x1, PUnit.unit)))
      (iff (!eqQ x0.2.2.1 x1.2.2.1)
        (Option.some (Sum.inl ((PUnit.unit, PUnit.unit, Bool.true, PUnit.unit), PUnit.unit, x0, x1, PUnit.unit)))
        (iff (!eqBl x0.2.2.2.1 x1.2.2.2.1)
          (Option.some (Sum.inl ((PUnit.unit, PUnit.unit, Bool.true, PUnit.unit), PUnit.unit, x0, x1, PUnit.unit)))
          (iff
            (!eqE
                (Ty.pair (Ty.int Go.IntKind.u8)
                  (Ty.pair (Ty.int Go.IntKind.i64)
                    (Ty.pair (Ty.int Go.IntKind.u64) (Ty.pair Ty.str Ty.unit))))
                x0.2.2.2.2.1 x1.2.2.2.2.1)
            (Option.some (Sum.inl ((PUnit.unit, PUnit.unit, Bool.true, PUnit.unit), PUnit.unit, x0, x1, PUnit.unit)))
            (iff (!eqQ x0.2.2.2.2.2.2.1 x1.2.2.2.2.2.2.1)
              (Option.some (Sum.inl ((PUnit.unit, PUnit.unit, Bool.true, PUnit.unit), PUnit.unit, x0, x1, PUnit.unit)))
              (Option.some
                (Sum.inl
                  ((PUnit.unit, PUnit.unit, !eqQ (Int.ofNat (List.length x0.2.2.2.2.2.1)) (Int.ofNat (List.length x1.2.2.2.2.2.1)),
                      PUnit.unit),
                    PUnit.unit, x0, x1, PUnit.unit)))))))))
  (sumK
    fun (x : (Unit × Unit × Bool × Unit) × Unit × El t64 × El t64 × Unit) =>
    r29_j2 n (Prod.fst (Prod.snd (Prod.snd (Prod.fst x)))) (Prod.fst (Prod.snd (Prod.snd x))) (Prod.fst (Prod.snd (Prod.snd (Prod.snd x)))))
noncomputable def r29 (n : Nat) (a : ElL [t64, t64]) : Option (ElL [t4]) := r29c n (a.1) (a.2.1)
noncomputable def r29p : Plan := ⟨[(4, Cut.mk [(2, Shp.at 0 0), (3, Shp.at 1 0), (5, Shp.d (Ty.int Go.IntKind.i64))] []
  [(0, Shp.d t64), (1, Shp.d t64)] 2)], [(2, Cut.mk [(2, Shp.at 0 0), (3, Shp.at 1 0), (54, Shp.d Ty.bool)] []
  [(0, Shp.d t64), (1, Shp.d t64)] 2), (8, Cut.mk [] [] [] 0)], []⟩
noncomputable def r29k (n : Nat) : Con := ⟨29, [t64, t64], [t4], r29 n, false, none⟩
theorem r29_ok (n : Nat) : SpecSim Try.prog noG 29 (Con.spec (r29k n)) :=
  lift_ok (tab := []) (fn := Try.f29) r29p n mix Tb.tys (fun _ h => by cases h) Try.func29 rfl (by kernel_rfl) (fun h => by cases h) (fun ⟨x0, x1, _⟩ => by kernel_rfl)
end L
end Go.Proofs.Ytlhagmgfffigfaa
