/- Function 19, as a function of data: its own run; its contract. Printed by a program. Conditions: none. -/
import Derived.Test.YtlhagmgfffigfaaTy
import Derived.Test.YtlhagmgfffigfaaL36
import Derived.Test.YtlhagmgfffigfaaL21
set_option maxRecDepth 100000
set_option linter.unusedVariables false
namespace Go.Proofs.Ytlhagmgfffigfaa
open Go Go.Abs
namespace L
noncomputable def r19_j4 (n : Nat) (x0_j4 : List (El t80)) (x1_j4 : Int) (x2_j4 : Int) (x3_j4 : Bool) : Option (Bool × Int × Unit) :=
  iff x3_j4 (Option.some (Bool.false, Int.ofNat 2, PUnit.unit))
  (andThen (inRange x1_j4 (List.length x0_j4)) fun (j9 : Nat) =>
    andThen (nthQ j9 x0_j4) fun (y10 : El t80) =>
      andThen (inRange x2_j4 (List.length x0_j4)) fun (j11 : Nat) =>
        andThen (nthQ j11 x0_j4) fun (y12 : El t80) =>
          andThen (r36 n (y10, y12, PUnit.unit))
            fun (y13 : ElL (Con.B (r36k n))) => Option.some (y13.1, Int.ofNat 0, PUnit.unit))
noncomputable def r19c (n : Nat) (x0 : List (El t80)) (x1 : Int) (x2 : Int) : Option (Bool × Int × Unit) :=
  andThen (r21 n (x0, PUnit.unit)) fun (y3 : ElL (Con.B (r21k n))) =>
  iff (!eqQ y3.1 (Int.ofNat 0))
    (andThen (r21 n (x0, PUnit.unit))
      fun (y4 : ElL (Con.B (r21k n))) => Option.some (Bool.false, y4.1, PUnit.unit))
    (andThen
      (iff (!leQ (Int.ofNat 0) x1) (Option.some (Sum.inl ((x0, x1, x2, Bool.true, PUnit.unit), PUnit.unit, PUnit.unit)))
        (iff (leQ (Int.ofNat (List.length x0)) x1) (Option.some (Sum.inl ((x0, x1, x2, Bool.true, PUnit.unit), PUnit.unit, PUnit.unit)))
          (iff (!leQ (Int.ofNat 0) x2) (Option.some (Sum.inl ((x0, x1, x2, Bool.true, PUnit.unit), PUnit.unit, PUnit.unit)))
            (Option.some (Sum.inl ((x0, x1, x2, leQ (Int.ofNat (List.length x0)) x2, PUnit.unit), PUnit.unit, PUnit.unit))))))
      (sumK fun (x : (List (El t80) × Int × Int × Bool × Unit) × Unit × Unit) =>
        r19_j4 n (Prod.fst (Prod.fst x)) (Prod.fst (Prod.snd (Prod.fst x))) (Prod.fst (Prod.snd (Prod.snd (Prod.fst x))))
          (Prod.fst (Prod.snd (Prod.snd (Prod.snd (Prod.fst x)))))))
noncomputable def r19 (n : Nat) (a : ElL [t33, t3, t3]) : Option (ElL [t4, t3]) := r19c n (a.1) (a.2.1) (a.2.2.1)
noncomputable def r19p : Plan := ⟨[], [(4, Cut.mk
  [(0, Shp.d (Ty.slice t80)), (1, Shp.d (Ty.int Go.IntKind.i64)),
    (2, Shp.d (Ty.int Go.IntKind.i64)), (30, Shp.d Ty.bool)]
  [] [] 0)], []⟩
noncomputable def r19k (n : Nat) : Con := ⟨19, [t33, t3, t3], [t4, t3], r19 n, false, none⟩
theorem r19_ok (n : Nat) : SpecSim Try.prog noG 19 (Con.spec (r19k n)) :=
  lift_ok (tab := [r36k n, r21k n]) (fn := Try.f19) r19p n mix Tb.tys (Cons.all (.cons (r36_ok n) (.cons (r21_ok n) .nil))) Try.func19 rfl (by kernel_rfl) (fun h => by cases h) (fun ⟨x0, x1, x2, _⟩ => by kernel_rfl)
end L
end Go.Proofs.Ytlhagmgfffigfaa
