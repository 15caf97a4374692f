/- Function 18, as a function of data: its own run; its contract. Printed by a program. Conditions: none. -/
import Derived.Test.YtlhagmgfffigfaaTy
import Derived.Test.YtlhagmgfffigfaaL20
set_option maxRecDepth 100000
set_option linter.unusedVariables false
namespace Go.Proofs.Ytlhagmgfffigfaa
open Go Go.Abs
namespace L
noncomputable def r18_j5 (n : Nat) (x0_j5 : List (El t80)) (x1_j5 : Int) (x2_j5 : Int) (x3_j5 : Bool) : Option (Bool × Int × Unit) :=
  iff x3_j5 (Option.some (Bool.false, Int.ofNat 2, PUnit.unit))
  (andThen (inRange x1_j5 (List.length x0_j5)) fun (j8 : Nat) =>
    andThen (nthQ j8 x0_j5) fun (y9 : El t80) =>
      iff (leQ (Int.ofNat 0) y9.2.2.2.2.2.2.2.2.2.2.1)
        (andThen (inRange x1_j5 (List.length x0_j5)) fun (j10 : Nat) =>
          andThen (nthQ j10 x0_j5) fun (y11 : El t80) =>
            andThen (inRange x2_j5 (List.length x0_j5)) fun (j12 : Nat) =>
              andThen (nthQ j12 x0_j5) fun (y13 : El t80) =>
                Option.some (!leQ y13.2.2.2.2.2.2.1 y11.2.2.2.2.2.2.2.2.2.2.1, Int.ofNat 0, PUnit.unit))
        (Option.some (Bool.false, Int.ofNat 0, PUnit.unit)))
noncomputable def r18c (n : Nat) (x0 : List (El t80)) (x1 : Int) (x2 : Int) : Option (Bool × Int × Unit) :=
  andThen (r20 n (x0, PUnit.unit)) fun (y3 : ElL (Con.B (r20k n))) =>
  iff (!eqQ y3.1 (Int.ofNat 0)) (Option.some (Bool.false, y3.1, PUnit.unit))
    (andThen
      (iff (!leQ (Int.ofNat 0) (iff (leQ x1 x2) x1 x2))
        (Option.some (Sum.inl ((x0, x1, x2, Bool.true, PUnit.unit), PUnit.unit, PUnit.unit)))
        (Option.some
          (Sum.inl
            ((x0, x1, x2, leQ (Int.ofNat (List.length x0)) (iff (leQ x2 x1) x1 x2), PUnit.unit), PUnit.unit, PUnit.unit))))
      (sumK fun (x : (List (El t80) × Int × Int × Bool × Unit) × Unit × Unit) =>
        r18_j5 n (Prod.fst (Prod.fst x)) (Prod.fst (Prod.snd (Prod.fst x))) (Prod.fst (Prod.snd (Prod.snd (Prod.fst x))))
          (Prod.fst (Prod.snd (Prod.snd (Prod.snd (Prod.fst x)))))))
noncomputable def r18 (n : Nat) (a : ElL [t33, t3, t3]) : Option (ElL [t4, t25]) := r18c n (a.1) (a.2.1) (a.2.2.1)
noncomputable def r18p : Plan := ⟨[], [(5, Cut.mk
  [(0, Shp.d (Ty.slice t80)), (1, Shp.d (Ty.int Go.IntKind.i64)),
    (2, Shp.d (Ty.int Go.IntKind.i64)), (25, Shp.d Ty.bool)]
  [] [] 0)], []⟩
noncomputable def r18k (n : Nat) : Con := ⟨18, [t33, t3, t3], [t4, t25], r18 n, false, none⟩
theorem r18_ok (n : Nat) : SpecSim Try.prog noG 18 (Con.spec (r18k n)) :=
  lift_ok (tab := [r20k n]) (fn := Try.f18) r18p n mix Tb.tys (Cons.all (.cons (r20_ok n) .nil)) Try.func18 rfl (by kernel_rfl) (fun h => by cases h) (fun ⟨x0, x1, x2, _⟩ => by kernel_rfl)
end L
end Go.Proofs.Ytlhagmgfffigfaa
