/- QuotaShares: what it computes. -/
import Derived.Test.YtkadjjicakinbaaDoorAl
set_option maxRecDepth 100000
namespace Go.Proofs.YtkadjjicakinbaaDoor
open Go Go.Abs
noncomputable def r7_0 (x0_0 : Int) (x0_1 : Int) (x0_2 : Int) (x0_3 : Int) (x0_4 : Int) (x0_5 : Int) (x0_6 : Int) (x0_7 : Int) (x0_8 : Int) : Bool := iff (!iff (eqQ (r20_0 x0_0 x0_1 x0_2 x0_3 x0_4 x0_5 x0_6 x0_7 x0_8) (r21_0 x0_0 x0_1 x0_2 x0_3 x0_4 x0_5 x0_6 x0_7 x0_8)) (iff (eqQ (r20_1 x0_0 x0_1 x0_2 x0_3 x0_4 x0_5 x0_6 x0_7 x0_8) (r21_1 x0_0 x0_1 x0_2 x0_3 x0_4 x0_5 x0_6 x0_7 x0_8)) (iff (eqQ (r20_2 x0_0 x0_1 x0_2 x0_3 x0_4 x0_5 x0_6 x0_7 x0_8) (r21_2 x0_0 x0_1 x0_2 x0_3 x0_4 x0_5 x0_6 x0_7 x0_8)) (iff (eqQ (r20_3 x0_0 x0_1 x0_2 x0_3 x0_4 x0_5 x0_6 x0_7 x0_8) (r21_3 x0_0 x0_1 x0_2 x0_3 x0_4 x0_5 x0_6 x0_7 x0_8)) (iff (eqQ (r20_4 x0_0 x0_1 x0_2 x0_3 x0_4 x0_5 x0_6 x0_7 x0_8) (r21_4 x0_0 x0_1 x0_2 x0_3 x0_4 x0_5 x0_6 x0_7 x0_8)) true false) false) false) false) false) false (iff (!eqQ (r20_5 x0_0 x0_1 x0_2 x0_3 x0_4 x0_5 x0_6 x0_7 x0_8) (r21_5 x0_0 x0_1 x0_2 x0_3 x0_4 x0_5 x0_6 x0_7 x0_8)) false (iff (!eqQ (r20_5 x0_0 x0_1 x0_2 x0_3 x0_4 x0_5 x0_6 x0_7 x0_8) (Int.ofNat 0)) (!r22_0 x0_0 x0_1 x0_2 x0_3 x0_4 x0_5 x0_6 x0_7 x0_8) (iff (eqQ (r11_0 (r20_0 x0_0 x0_1 x0_2 x0_3 x0_4 x0_5 x0_6 x0_7 x0_8) (r20_1 x0_0 x0_1 x0_2 x0_3 x0_4 x0_5 x0_6 x0_7 x0_8) (r20_2 x0_0 x0_1 x0_2 x0_3 x0_4 x0_5 x0_6 x0_7 x0_8) (r20_3 x0_0 x0_1 x0_2 x0_3 x0_4 x0_5 x0_6 x0_7 x0_8) (r20_4 x0_0 x0_1 x0_2 x0_3 x0_4 x0_5 x0_6 x0_7 x0_8)) (Int.ofNat 0)) (iff (!leQ x0_7 x0_4) (iff (!leQ x0_7 x0_3) true (leQ (wrapQ IntKind.i64 (Int.mul (r20_3 x0_0 x0_1 x0_2 x0_3 x0_4 x0_5 x0_6 x0_7 x0_8) x0_7)) x0_3)) (iff (leQ (wrapQ IntKind.i64 (Int.mul (r20_2 x0_0 x0_1 x0_2 x0_3 x0_4 x0_5 x0_6 x0_7 x0_8) x0_7)) x0_4) (iff (!leQ x0_7 x0_3) true (leQ (wrapQ IntKind.i64 (Int.mul (r20_3 x0_0 x0_1 x0_2 x0_3 x0_4 x0_5 x0_6 x0_7 x0_8) x0_7)) x0_3)) false)) false)))
noncomputable def v7 (x0_0 : Int) (x0_1 : Int) (x0_2 : Int) (x0_3 : Int) (x0_4 : Int) (x0_5 : Int) (x0_6 : Int) (x0_7 : Int) (x0_8 : Int) : Value := Value.bool (r7_0 x0_0 x0_1 x0_2 x0_3 x0_4 x0_5 x0_6 x0_7 x0_8)
noncomputable def s7 : SpecF := fun args σ => andThen2 (gCons args) fun a0 q0 => andThen (gNil q0) fun _ => andThen (asA a0) fun l0 => andThen2 (gCons l0) fun c0_0 q0_0 => andThen (gI IntKind.i64 c0_0) fun x0_0 => andThen2 (gCons q0_0) fun c0_1 q0_1 => andThen (gI IntKind.i64 c0_1) fun x0_1 => andThen2 (gCons q0_1) fun c0_2 q0_2 => andThen (gI IntKind.i64 c0_2) fun x0_2 => andThen2 (gCons q0_2) fun c0_3 q0_3 => andThen (gI IntKind.i64 c0_3) fun x0_3 => andThen2 (gCons q0_3) fun c0_4 q0_4 => andThen (gI IntKind.i64 c0_4) fun x0_4 => andThen2 (gCons q0_4) fun c0_5 q0_5 => andThen (gI IntKind.i64 c0_5) fun x0_5 => andThen2 (gCons q0_5) fun c0_6 q0_6 => andThen (gI IntKind.i64 c0_6) fun x0_6 => andThen2 (gCons q0_6) fun c0_7 q0_7 => andThen (gI IntKind.i64 c0_7) fun x0_7 => andThen2 (gCons q0_7) fun c0_8 q0_8 => andThen (gI IntKind.i64 c0_8) fun x0_8 => andThen (gNil q0_8) fun _ => iff (hasTabs tabs0 σ) (some (v7 x0_0 x0_1 x0_2 x0_3 x0_4 x0_5 x0_6 x0_7 x0_8, σ)) none
theorem s7_sim : SpecSim Tryd.prog Tb.glob 7 s7 := by
  refine plain_tab Tb.glob tabs0 1 (call := callL [(19, s19), (20, s20), (21, s21), (11, s11), (22, s22)]) ⟨[(40002, 1)], []⟩ mix Tb.tys (callL_ok (fun p hp => by
    simp only [List.mem_cons, List.not_mem_nil, or_false] at hp
    rcases hp with rfl | rfl | rfl | rfl | rfl
    · first | exact s19_sim | exact s19_sim.mono (fun g h => by cases h)
    · first | exact s20_sim | exact s20_sim.mono (fun g h => by cases h)
    · first | exact s21_sim | exact s21_sim.mono (fun g h => by cases h)
    · first | exact s11_sim | exact s11_sim.mono (fun g h => by cases h)
    · first | exact s22_sim | exact s22_sim.mono (fun g h => by cases h))) Tryd.func7 (by kernel_rfl) (by kernel_rfl) (by kernel_rfl) (by kernel_rfl) tabs0_mem fun args σ v σ' h => ?_
  obtain ⟨a0, q0, e0, h⟩ := andThen2_eq h
  obtain ⟨_, en, h⟩ := andThen_eq h
  obtain ⟨l0, ea0, h⟩ := andThen_eq h
  obtain ⟨c0_0, q0_0, e0_0, h⟩ := andThen2_eq h
  obtain ⟨x0_0, ex0_0, h⟩ := andThen_eq h
  obtain ⟨c0_1, q0_1, e0_1, h⟩ := andThen2_eq h
  obtain ⟨x0_1, ex0_1, h⟩ := andThen_eq h
  obtain ⟨c0_2, q0_2, e0_2, h⟩ := andThen2_eq h
  obtain ⟨x0_2, ex0_2, h⟩ := andThen_eq h
  obtain ⟨c0_3, q0_3, e0_3, h⟩ := andThen2_eq h
  obtain ⟨x0_3, ex0_3, h⟩ := andThen_eq h
  obtain ⟨c0_4, q0_4, e0_4, h⟩ := andThen2_eq h
  obtain ⟨x0_4, ex0_4, h⟩ := andThen_eq h
  obtain ⟨c0_5, q0_5, e0_5, h⟩ := andThen2_eq h
  obtain ⟨x0_5, ex0_5, h⟩ := andThen_eq h
  obtain ⟨c0_6, q0_6, e0_6, h⟩ := andThen2_eq h
  obtain ⟨x0_6, ex0_6, h⟩ := andThen_eq h
  obtain ⟨c0_7, q0_7, e0_7, h⟩ := andThen2_eq h
  obtain ⟨x0_7, ex0_7, h⟩ := andThen_eq h
  obtain ⟨c0_8, q0_8, e0_8, h⟩ := andThen2_eq h
  obtain ⟨x0_8, ex0_8, h⟩ := andThen_eq h
  obtain ⟨_, en0, h⟩ := andThen_eq h
  obtain ⟨ht, h⟩ := iff_some h
  cases h
  obtain rfl := gNil_eq en
  obtain rfl := gNil_eq en0
  obtain rfl := gCons_eq e0_8
  obtain rfl := gI_eq ex0_8
  obtain rfl := gCons_eq e0_7
  obtain rfl := gI_eq ex0_7
  obtain rfl := gCons_eq e0_6
  obtain rfl := gI_eq ex0_6
  obtain rfl := gCons_eq e0_5
  obtain rfl := gI_eq ex0_5
  obtain rfl := gCons_eq e0_4
  obtain rfl := gI_eq ex0_4
  obtain rfl := gCons_eq e0_3
  obtain rfl := gI_eq ex0_3
  obtain rfl := gCons_eq e0_2
  obtain rfl := gI_eq ex0_2
  obtain rfl := gCons_eq e0_1
  obtain rfl := gI_eq ex0_1
  obtain rfl := gCons_eq e0_0
  obtain rfl := gI_eq ex0_0
  obtain rfl := asA_eq ea0
  obtain rfl := gCons_eq e0
  refine ⟨rfl, ht, fun ι => .cons (VA.bareA (by rfl)) (.nil), .bare rfl, fun L => ?_⟩
  refine ⟨(.split (.lit (.lit (.split .done (.split (.lit (.lit (.lit .done))) (.lit (.lit (.lit (.split (.lit (.lit (.lit (.lit (.lit (.split (.lit (.lit (.lit (.lit (.lit (.lit (.lit (.lit (.split (.lit (.lit (.lit (.lit (.lit (.split (.lit (.lit (.lit (.lit (.lit (.lit (.lit (.lit .done)))))))) (.lit (.lit (.lit (.lit (.lit (.lit (.lit (.lit .done)))))))))))))) (.lit (.lit (.lit (.lit (.lit (.lit (.lit (.lit (.lit (.lit (.lit (.lit (.lit (.lit .done))))))))))))))))))))))) (.lit (.lit (.lit (.lit (.lit (.lit (.lit (.lit (.lit (.lit (.lit (.lit (.lit (.lit (.split (.lit (.lit (.lit (.lit (.lit (.lit (.lit (.lit .done)))))))) (.lit (.lit (.lit (.lit (.lit (.lit (.lit (.lit .done))))))))))))))))))))))))))))) (.lit (.lit (.lit (.lit (.lit (.lit (.lit (.lit (.lit (.lit (.lit (.lit (.lit (.lit (.lit (.lit (.lit (.lit (.lit (.lit (.lit (.lit (.lit (.lit (.lit (.lit (.lit (.lit (.lit .done))))))))))))))))))))))))))))))))))))) (.lit (.lit (.lit .done)))), of_eq (b := (fun R : Value → Prop => ((!iff (eqQ (r20_0 x0_0 x0_1 x0_2 x0_3 x0_4 x0_5 x0_6 x0_7 x0_8) (r21_0 x0_0 x0_1 x0_2 x0_3 x0_4 x0_5 x0_6 x0_7 x0_8)) (iff (eqQ (r20_1 x0_0 x0_1 x0_2 x0_3 x0_4 x0_5 x0_6 x0_7 x0_8) (r21_1 x0_0 x0_1 x0_2 x0_3 x0_4 x0_5 x0_6 x0_7 x0_8)) (iff (eqQ (r20_2 x0_0 x0_1 x0_2 x0_3 x0_4 x0_5 x0_6 x0_7 x0_8) (r21_2 x0_0 x0_1 x0_2 x0_3 x0_4 x0_5 x0_6 x0_7 x0_8)) (iff (eqQ (r20_3 x0_0 x0_1 x0_2 x0_3 x0_4 x0_5 x0_6 x0_7 x0_8) (r21_3 x0_0 x0_1 x0_2 x0_3 x0_4 x0_5 x0_6 x0_7 x0_8)) (iff (eqQ (r20_4 x0_0 x0_1 x0_2 x0_3 x0_4 x0_5 x0_6 x0_7 x0_8) (r21_4 x0_0 x0_1 x0_2 x0_3 x0_4 x0_5 x0_6 x0_7 x0_8)) true false) false) false) false) false) = false → ((!eqQ (r20_5 x0_0 x0_1 x0_2 x0_3 x0_4 x0_5 x0_6 x0_7 x0_8) (r21_5 x0_0 x0_1 x0_2 x0_3 x0_4 x0_5 x0_6 x0_7 x0_8)) = true → R (Value.bool false)) ∧ ((!eqQ (r20_5 x0_0 x0_1 x0_2 x0_3 x0_4 x0_5 x0_6 x0_7 x0_8) (r21_5 x0_0 x0_1 x0_2 x0_3 x0_4 x0_5 x0_6 x0_7 x0_8)) = false → ((!eqQ (r20_5 x0_0 x0_1 x0_2 x0_3 x0_4 x0_5 x0_6 x0_7 x0_8) (Int.ofNat 0)) = true → R (Value.bool !r22_0 x0_0 x0_1 x0_2 x0_3 x0_4 x0_5 x0_6 x0_7 x0_8)) ∧ ((!eqQ (r20_5 x0_0 x0_1 x0_2 x0_3 x0_4 x0_5 x0_6 x0_7 x0_8) (Int.ofNat 0)) = false → (eqQ (r11_0 (r20_0 x0_0 x0_1 x0_2 x0_3 x0_4 x0_5 x0_6 x0_7 x0_8) (r20_1 x0_0 x0_1 x0_2 x0_3 x0_4 x0_5 x0_6 x0_7 x0_8) (r20_2 x0_0 x0_1 x0_2 x0_3 x0_4 x0_5 x0_6 x0_7 x0_8) (r20_3 x0_0 x0_1 x0_2 x0_3 x0_4 x0_5 x0_6 x0_7 x0_8) (r20_4 x0_0 x0_1 x0_2 x0_3 x0_4 x0_5 x0_6 x0_7 x0_8)) (Int.ofNat 0) = true → ((!leQ x0_7 x0_4) = false → (leQ (wrapQ IntKind.i64 (Int.mul (r20_2 x0_0 x0_1 x0_2 x0_3 x0_4 x0_5 x0_6 x0_7 x0_8) x0_7)) x0_4 = true → ((!leQ x0_7 x0_3) = false → R (Value.bool (leQ (wrapQ IntKind.i64 (Int.mul (r20_3 x0_0 x0_1 x0_2 x0_3 x0_4 x0_5 x0_6 x0_7 x0_8) x0_7)) x0_3))) ∧ ((!leQ x0_7 x0_3) = true → R (Value.bool true))) ∧ (leQ (wrapQ IntKind.i64 (Int.mul (r20_2 x0_0 x0_1 x0_2 x0_3 x0_4 x0_5 x0_6 x0_7 x0_8) x0_7)) x0_4 = false → R (Value.bool false))) ∧ ((!leQ x0_7 x0_4) = true → ((!leQ x0_7 x0_3) = false → R (Value.bool (leQ (wrapQ IntKind.i64 (Int.mul (r20_3 x0_0 x0_1 x0_2 x0_3 x0_4 x0_5 x0_6 x0_7 x0_8) x0_7)) x0_3))) ∧ ((!leQ x0_7 x0_3) = true → R (Value.bool true)))) ∧ (eqQ (r11_0 (r20_0 x0_0 x0_1 x0_2 x0_3 x0_4 x0_5 x0_6 x0_7 x0_8) (r20_1 x0_0 x0_1 x0_2 x0_3 x0_4 x0_5 x0_6 x0_7 x0_8) (r20_2 x0_0 x0_1 x0_2 x0_3 x0_4 x0_5 x0_6 x0_7 x0_8) (r20_3 x0_0 x0_1 x0_2 x0_3 x0_4 x0_5 x0_6 x0_7 x0_8) (r20_4 x0_0 x0_1 x0_2 x0_3 x0_4 x0_5 x0_6 x0_7 x0_8)) (Int.ofNat 0) = false → R (Value.bool false))))) ∧ ((!iff (eqQ (r20_0 x0_0 x0_1 x0_2 x0_3 x0_4 x0_5 x0_6 x0_7 x0_8) (r21_0 x0_0 x0_1 x0_2 x0_3 x0_4 x0_5 x0_6 x0_7 x0_8)) (iff (eqQ (r20_1 x0_0 x0_1 x0_2 x0_3 x0_4 x0_5 x0_6 x0_7 x0_8) (r21_1 x0_0 x0_1 x0_2 x0_3 x0_4 x0_5 x0_6 x0_7 x0_8)) (iff (eqQ (r20_2 x0_0 x0_1 x0_2 x0_3 x0_4 x0_5 x0_6 x0_7 x0_8) (r21_2 x0_0 x0_1 x0_2 x0_3 x0_4 x0_5 x0_6 x0_7 x0_8)) (iff (eqQ (r20_3 x0_0 x0_1 x0_2 x0_3 x0_4 x0_5 x0_6 x0_7 x0_8) (r21_3 x0_0 x0_1 x0_2 x0_3 x0_4 x0_5 x0_6 x0_7 x0_8)) (iff (eqQ (r20_4 x0_0 x0_1 x0_2 x0_3 x0_4 x0_5 x0_6 x0_7 x0_8) (r21_4 x0_0 x0_1 x0_2 x0_3 x0_4 x0_5 x0_6 x0_7 x0_8)) true false) false) false) false) false) = true → R (Value.bool false))) (fun v => v = v7 x0_0 x0_1 x0_2 x0_3 x0_4 x0_5 x0_6 x0_7 x0_8)) (by kernel_rfl) ?_⟩
  dsimp only
  repeat' (first | apply And.intro | intro)
  all_goals first | (simp only [v7, r7_0, *, Abs.iff_true, Abs.iff_false]; done) | (simp only [Int.ofNat_eq_natCast, leQ_eq, eqQ_eq, Bool.not_eq_false', Bool.not_eq_true', decide_eq_true_eq, decide_eq_false_iff_not, beq_eq_false_iff_ne, ne_eq] at *; omega) | (simp only [r20_0, r20_1, r20_2, r20_3, r20_4, r20_5, r21_0, r21_1, r21_2, r21_3, r21_4, r21_5, r11_0, r22_0, Abs.iff_eq, Int.ofNat_eq_natCast, leQ_eq, eqQ_eq] at *; grind)
end Go.Proofs.YtkadjjicakinbaaDoor
