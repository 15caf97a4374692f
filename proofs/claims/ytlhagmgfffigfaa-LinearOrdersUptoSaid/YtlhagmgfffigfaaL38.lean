/- Function 38, as a function of data: its own run; its contract. Printed by a program. Conditions: none. -/
import Derived.Test.YtlhagmgfffigfaaTy
import Derived.Test.YtlhagmgfffigfaaL51
import Derived.Test.YtlhagmgfffigfaaL50
set_option maxRecDepth 100000
set_option linter.unusedVariables false
namespace Go.Proofs.Ytlhagmgfffigfaa
open Go Go.Abs
namespace L
noncomputable def r38_j4 (n : Nat) (x0_j4 : Bool) (x1_j4 : El t80) : Option (Bool × Unit) :=
  iff x0_j4 (Option.some (Bool.false, PUnit.unit))
  (iff (!leQ (Int.ofNat 0) x1_j4.2.2.2.2.2.2.2.2.2.2.1) (Option.some (Bool.true, PUnit.unit))
    (iff (leQ x1_j4.2.2.2.2.2.2.2.1 x1_j4.2.2.2.2.2.2.2.2.2.2.1)
      (iff (leQ x1_j4.2.2.2.2.2.2.2.2.1 x1_j4.2.2.2.2.2.2.2.2.2.2.1)
        (Option.some (leQ x1_j4.2.2.2.2.2.2.2.2.2.1 x1_j4.2.2.2.2.2.2.2.2.2.2.1, PUnit.unit)) (Option.some (Bool.false, PUnit.unit)))
      (Option.some (Bool.false, PUnit.unit))))
noncomputable def r38_j2 (n : Nat) (x0_j2 : Bool) (x1_j2 : El t80) : Option (Bool × Unit) :=
  iff x0_j2 (Option.some (Bool.false, PUnit.unit))
  (andThen
    (iff (!leQ (Int.negSucc 0) x1_j2.2.2.2.2.2.1)
      (Option.some (Sum.inl ((PUnit.unit, Bool.true, PUnit.unit), PUnit.unit, x1_j2, PUnit.unit)))
      (iff (!eqBl (leQ (Int.ofNat 0) x1_j2.2.2.2.2.2.1) (leQ (Int.ofNat 0) x1_j2.2.2.2.2.2.2.2.2.1))
        (Option.some (Sum.inl ((PUnit.unit, Bool.true, PUnit.unit), PUnit.unit, x1_j2, PUnit.unit)))
        (andThen (r51 n (x1_j2.2.2.2.2.2.2.2.1, x1_j2.2.2.2.2.2.2.2.2.1, PUnit.unit))
          fun (y7 : ElL (Con.B (r51k n))) =>
          iff (!y7.1) (Option.some (Sum.inl ((PUnit.unit, Bool.true, PUnit.unit), PUnit.unit, x1_j2, PUnit.unit)))
            (andThen (r51 n (x1_j2.2.2.2.2.2.2.2.2.1, x1_j2.2.2.2.2.2.2.2.2.2.1, PUnit.unit))
              fun (y8 : ElL (Con.B (r51k n))) =>
              iff (!y8.1) (Option.some (Sum.inl ((PUnit.unit, Bool.true, PUnit.unit), PUnit.unit, x1_j2, PUnit.unit)))
                (andThen (r51 n (x1_j2.2.2.2.2.2.2.2.1, x1_j2.2.2.2.2.2.2.2.2.2.1, PUnit.unit))
                  fun (y9 : ElL (Con.B (r51k n))) =>
                  Option.some (Sum.inl ((PUnit.unit, !y9.1, PUnit.unit), PUnit.unit, x1_j2, PUnit.unit)))))))
    (sumK fun (x : (Unit × Bool × Unit) × Unit × El t80 × Unit) =>
      r38_j4 n (Prod.fst (Prod.snd (Prod.fst x))) (Prod.fst (Prod.snd (Prod.snd x)))))
noncomputable def r38c (n : Nat) (x0 : El t80) : Option (Bool × Unit) :=
  andThen
  (iff (!leQ (Int.ofNat 0) x0.2.2.2.2.2.2.1) (Option.some (Sum.inl ((PUnit.unit, Bool.true, PUnit.unit), PUnit.unit, x0, PUnit.unit)))
    (iff (leQ (Int.ofNat 120) x0.2.2.2.2.2.2.1)
      (Option.some (Sum.inl ((PUnit.unit, Bool.true, PUnit.unit), PUnit.unit, x0, PUnit.unit)))
      (andThen (r50 n (x0.2.2.2.2.2.2.2.1, x0.2.2.2.2.2.2.1, PUnit.unit))
        fun (y1 : ElL (Con.B (r50k n))) =>
        iff (!y1.1) (Option.some (Sum.inl ((PUnit.unit, Bool.true, PUnit.unit), PUnit.unit, x0, PUnit.unit)))
          (andThen (r50 n (x0.2.2.2.2.2.2.2.2.1, x0.2.2.2.2.2.2.1, PUnit.unit))
            fun (y2 : ElL (Con.B (r50k n))) =>
            iff (!y2.1) (Option.some (Sum.inl ((PUnit.unit, Bool.true, PUnit.unit), PUnit.unit, x0, PUnit.unit)))
              (andThen (r50 n (x0.2.2.2.2.2.2.2.2.2.1, x0.2.2.2.2.2.2.1, PUnit.unit))
                fun (y3 : ElL (Con.B (r50k n))) =>
                iff (!y3.1) (Option.some (Sum.inl ((PUnit.unit, Bool.true, PUnit.unit), PUnit.unit, x0, PUnit.unit)))
                  (andThen (r50 n (x0.2.2.2.2.2.2.2.2.2.2.1, x0.2.2.2.2.2.2.1, PUnit.unit))
                    fun (y4 : ElL (Con.B (r50k n))) =>
                    Option.some (Sum.inl ((PUnit.unit, !y4.1, PUnit.unit), PUnit.unit, x0, PUnit.unit))))))))
  (sumK fun (x : (Unit × Bool × Unit) × Unit × El t80 × Unit) =>
    r38_j2 n (Prod.fst (Prod.snd (Prod.fst x))) (Prod.fst (Prod.snd (Prod.snd x))))
noncomputable def r38 (n : Nat) (a : ElL [t80]) : Option (ElL [t4]) := r38c n (a.1)
noncomputable def r38p : Plan := ⟨[], [(2, Cut.mk [(1, Shp.at 0 0), (42, Shp.d Ty.bool)] [] [(0, Shp.d t80)] 1), (4, Cut.mk [(1, Shp.at 0 0), (78, Shp.d Ty.bool)] [] [(0, Shp.d t80)] 1)], []⟩
noncomputable def r38k (n : Nat) : Con := ⟨38, [t80], [t4], r38 n, false, none⟩
theorem r38_ok (n : Nat) : SpecSim Try.prog noG 38 (Con.spec (r38k n)) :=
  lift_ok (tab := [r51k n, r50k n]) (fn := Try.f38) r38p n mix Tb.tys (Cons.all (.cons (r51_ok n) (.cons (r50_ok n) .nil))) Try.func38 rfl (by kernel_rfl) (fun h => by cases h) (fun ⟨x0, _⟩ => by kernel_rfl)
end L
end Go.Proofs.Ytlhagmgfffigfaa
