/- Function 4, as a function of data: its own run; its contract. Printed by a program. Conditions: none. -/
import Derived.Test.YtlhagmgfffigfaaTy
import Derived.Test.YtlhagmgfffigfaaL23
import Derived.Test.YtlhagmgfffigfaaL8
import Derived.Test.YtlhagmgfffigfaaL22
import Derived.Test.YtlhagmgfffigfaaL21
import Derived.Test.YtlhagmgfffigfaaL20
import Derived.Test.YtlhagmgfffigfaaL19
import Derived.Test.YtlhagmgfffigfaaL18
import Derived.Test.YtlhagmgfffigfaaL17
import Derived.Test.YtlhagmgfffigfaaL16
import Derived.Test.YtlhagmgfffigfaaL15
import Derived.Test.YtlhagmgfffigfaaL14
import Derived.Test.YtlhagmgfffigfaaL13
import Derived.Test.YtlhagmgfffigfaaL12
import Derived.Test.YtlhagmgfffigfaaL11
import Derived.Test.YtlhagmgfffigfaaL10
set_option maxRecDepth 100000
set_option linter.unusedVariables false
namespace Go.Proofs.Ytlhagmgfffigfaa
open Go Go.Abs
namespace L
noncomputable def r4c (n : Nat) (x0 : List (El t80)) (x1 : Int) (x2 : Int) : Option (Bool × Unit) :=
  andThen (r10 n (x0, PUnit.unit)) fun (y3 : ElL (Con.B (r10k n))) =>
  iff y3.1 (Option.some (Bool.true, PUnit.unit))
    (andThen (r11 n (x0, PUnit.unit))
      fun (y4 : ElL (Con.B (r11k n))) =>
      andThen (r12 n (x0, PUnit.unit))
        fun (y5 : ElL (Con.B (r12k n))) =>
        andThen (r13 n (y4.1, PUnit.unit))
          fun (y6 : ElL (Con.B (r13k n))) =>
          andThen (r14 n (x0, PUnit.unit))
            fun (y7 : ElL (Con.B (r14k n))) =>
            andThen (r15 n (y4.1, PUnit.unit))
              fun (y8 : ElL (Con.B (r15k n))) =>
              andThen (r16 n (x0, PUnit.unit))
                fun (y9 : ElL (Con.B (r16k n))) =>
                andThen (r17 n (y4.1, PUnit.unit))
                  fun (y10 : ElL (Con.B (r17k n))) =>
                  andThen (r18 n (x0, x1, x2, PUnit.unit))
                    fun (y11 : ElL (Con.B (r18k n))) =>
                    andThen (r19 n (y4.1, x1, x2, PUnit.unit))
                      fun (y12 : ElL (Con.B (r19k n))) =>
                      andThen (r20 n (x0, PUnit.unit))
                        fun (y13 : ElL (Con.B (r20k n))) =>
                        andThen (r21 n (y4.1, PUnit.unit))
                          fun (y14 : ElL (Con.B (r21k n))) =>
                          iff (eqQ y13.1 y14.1)
                            (andThen (r22 n (y5.1, y6.1, PUnit.unit))
                              fun (y15 : ElL (Con.B (r22k n))) =>
                              iff y15.1
                                (iff (eqQ y5.2.1 y6.2.1)
                                  (andThen (r8 n (y7.1, y8.1, PUnit.unit))
                                    fun (y16 : ElL (Con.B (r8k n))) =>
                                    iff y16.1
                                      (iff (eqQ y7.2.1 y8.2.1)
                                        (andThen (r8 n (y9.1, y10.1, PUnit.unit))
                                          fun (y17 : ElL (Con.B (r8k n))) =>
                                          iff y17.1
                                            (iff (eqQ y9.2.1 y10.2.1)
                                              (iff (eqBl y11.1 y12.1)
                                                (iff (eqQ y11.2.1 y12.2.1)
                                                  (andThen (r23 n (x0, y4.1, PUnit.unit))
                                                    fun (y18 : ElL (Con.B (r23k n))) =>
                                                    Option.some (y18.1, PUnit.unit))
                                                  (Option.some (Bool.false, PUnit.unit)))
                                                (Option.some (Bool.false, PUnit.unit)))
                                              (Option.some (Bool.false, PUnit.unit)))
                                            (Option.some (Bool.false, PUnit.unit)))
                                        (Option.some (Bool.false, PUnit.unit)))
                                      (Option.some (Bool.false, PUnit.unit)))
                                  (Option.some (Bool.false, PUnit.unit)))
                                (Option.some (Bool.false, PUnit.unit)))
                            (Option.some (Bool.false, PUnit.unit)))
noncomputable def r4 (n : Nat) (a : ElL [t33, t3, t3]) : Option (ElL [t4]) := r4c n (a.1) (a.2.1) (a.2.2.1)
noncomputable def r4p : Plan := ⟨[], [], []⟩
noncomputable def r4k (n : Nat) : Con := ⟨4, [t33, t3, t3], [t4], r4 n, false, none⟩
theorem r4_ok (n : Nat) : SpecSim Try.prog noG 4 (Con.spec (r4k n)) :=
  lift_ok (tab := [r23k n, r8k n, r22k n, r21k n, r20k n, r19k n, r18k n, r17k n, r16k n, r15k n, r14k n, r13k n, r12k n, r11k n, r10k n]) (fn := Try.f4) r4p n mix Tb.tys (Cons.all (.cons (r23_ok n) (.cons (r8_ok n) (.cons (r22_ok n) (.cons (r21_ok n) (.cons (r20_ok n) (.cons (r19_ok n) (.cons (r18_ok n) (.cons (r17_ok n) (.cons (r16_ok n) (.cons (r15_ok n) (.cons (r14_ok n) (.cons (r13_ok n) (.cons (r12_ok n) (.cons (r11_ok n) (.cons (r10_ok n) .nil)))))))))))))))) Try.func4 rfl (by kernel_rfl) (fun h => by cases h) (fun ⟨x0, x1, x2, _⟩ => by kernel_rfl)
end L
end Go.Proofs.Ytlhagmgfffigfaa
