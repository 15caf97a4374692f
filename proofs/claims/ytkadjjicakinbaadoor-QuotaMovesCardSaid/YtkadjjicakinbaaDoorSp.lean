/- What the functions of the package quota and of its reference do, one by one. -/
import Derived.Test.YtkadjjicakinbaaDoorGl
set_option maxRecDepth 100000
namespace Go.Proofs.YtkadjjicakinbaaDoor
open Go Go.Abs
noncomputable def r24_0 (x0 : Int) (x1 : Int) : Bool := iff (leQ (Int.ofNat 1) x0) (leQ x0 x1) false
noncomputable def v24 (x0 : Int) (x1 : Int) : Value := Value.bool (r24_0 x0 x1)
noncomputable def s24 : SpecF := fun args σ => andThen2 (gCons args) fun a0 q0 => andThen2 (gCons q0) fun a1 q1 => andThen (gNil q1) fun _ => andThen (gI IntKind.i64 a0) fun x0 => andThen (gI IntKind.i64 a1) fun x1 => some (v24 x0 x1, σ)
theorem s24_sim : SpecSim Tryd.prog noG 24 s24 := by
  refine plain_of (call := callL []) ⟨[], []⟩ mix Tb.tys (callL_ok (fun p hp => by cases hp)) Tryd.func24 (by kernel_rfl) (by kernel_rfl) fun args σ v σ' h => ?_
  obtain ⟨a0, q0, e0, h⟩ := andThen2_eq h
  obtain ⟨a1, q1, e1, h⟩ := andThen2_eq h
  obtain ⟨_, en, h⟩ := andThen_eq h
  obtain ⟨x0, ex0, h⟩ := andThen_eq h
  obtain ⟨x1, ex1, h⟩ := andThen_eq h
  cases h
  obtain rfl := gNil_eq en
  obtain rfl := gI_eq ex0
  obtain rfl := gI_eq ex1
  obtain rfl := gCons_eq e1
  obtain rfl := gCons_eq e0
  refine ⟨rfl, .cons (.bare rfl) (.cons (.bare rfl) (.nil)), .bare rfl, fun L => ⟨(.split (.lit (.lit .done)) (.lit (.lit .done))), ?_⟩⟩
  refine of_eq (b := (fun R : Value → Prop => (leQ (Int.ofNat 1) x0 = true → R (Value.bool (leQ x0 x1))) ∧ (leQ (Int.ofNat 1) x0 = false → R (Value.bool false))) (fun v => v = v24 x0 x1)) (by kernel_rfl) ?_
  dsimp only
  repeat' (first | apply And.intro | intro)
  all_goals simp only [v24, r24_0, *, Abs.iff_true, Abs.iff_false]
noncomputable def r11_0 (x0_0 : Int) (x0_1 : Int) (x0_2 : Int) (x0_3 : Int) (x0_4 : Int) : Int := iff (!leQ (Int.ofNat 1) x0_0) (Int.ofNat 8) (iff (!leQ x0_0 (Int.ofNat 8)) (Int.ofNat 8) (iff (!leQ (Int.ofNat 1) x0_1) (Int.ofNat 8) (iff (!leQ x0_1 (Int.ofNat 16000)) (Int.ofNat 8) (iff (!leQ (Int.ofNat 1) x0_2) (Int.ofNat 8) (iff (!leQ x0_2 (Int.ofNat 8)) (Int.ofNat 8) (iff (!leQ (Int.ofNat 1) x0_3) (Int.ofNat 8) (iff (!leQ x0_3 (Int.ofNat 8)) (Int.ofNat 8) (iff (!leQ (Int.ofNat 1) x0_4) (Int.ofNat 8) (iff (!leQ x0_4 (Int.ofNat 8)) (Int.ofNat 8) (Int.ofNat 0))))))))))
noncomputable def v11 (x0_0 : Int) (x0_1 : Int) (x0_2 : Int) (x0_3 : Int) (x0_4 : Int) : Value := Value.int IntKind.i64 (r11_0 x0_0 x0_1 x0_2 x0_3 x0_4)
noncomputable def s11 : SpecF := fun args σ => andThen2 (gCons args) fun a0 q0 => andThen (gNil q0) fun _ => andThen (asA a0) fun l0 => andThen2 (gCons l0) fun c0_0 q0_0 => andThen (gI IntKind.i64 c0_0) fun x0_0 => andThen2 (gCons q0_0) fun c0_1 q0_1 => andThen (gI IntKind.i64 c0_1) fun x0_1 => andThen2 (gCons q0_1) fun c0_2 q0_2 => andThen (gI IntKind.i64 c0_2) fun x0_2 => andThen2 (gCons q0_2) fun c0_3 q0_3 => andThen (gI IntKind.i64 c0_3) fun x0_3 => andThen2 (gCons q0_3) fun c0_4 q0_4 => andThen (gI IntKind.i64 c0_4) fun x0_4 => andThen (gNil q0_4) fun _ => some (v11 x0_0 x0_1 x0_2 x0_3 x0_4, σ)
theorem s11_sim : SpecSim Tryd.prog noG 11 s11 := by
  refine plain_of (call := callL []) ⟨[], [(2, 6)]⟩ mix Tb.tys (callL_ok (fun p hp => by cases hp)) Tryd.func11 (by kernel_rfl) (by kernel_rfl) fun args σ v σ' h => ?_
  obtain ⟨a0, q0, e0, h⟩ := andThen2_eq h
  obtain ⟨_, en, h⟩ := andThen_eq h
  obtain ⟨l0, ea0, h⟩ := andThen_eq h
  obtain ⟨c0_0, q0_0, e0_0, h⟩ := andThen2_eq h
  obtain ⟨x0_0, ex0_0, h⟩ := andThen_eq h
  obtain ⟨c0_1, q0_1, e0_1, h⟩ := andThen2_eq h
  obtain ⟨x0_1, ex0_1, h⟩ := andThen_eq h
  obtain ⟨c0_2, q0_2, e0_2, h⟩ := andThen2_eq h
  obtain ⟨x0_2, ex0_2, h⟩ := andThen_eq h
  obtain ⟨c0_3, q0_3, e0_3, h⟩ := andThen2_eq h
  obtain ⟨x0_3, ex0_3, h⟩ := andThen_eq h
  obtain ⟨c0_4, q0_4, e0_4, h⟩ := andThen2_eq h
  obtain ⟨x0_4, ex0_4, h⟩ := andThen_eq h
  obtain ⟨_, en0, h⟩ := andThen_eq h
  cases h
  obtain rfl := gNil_eq en
  obtain rfl := gNil_eq en0
  obtain rfl := gCons_eq e0_4
  obtain rfl := gI_eq ex0_4
  obtain rfl := gCons_eq e0_3
  obtain rfl := gI_eq ex0_3
  obtain rfl := gCons_eq e0_2
  obtain rfl := gI_eq ex0_2
  obtain rfl := gCons_eq e0_1
  obtain rfl := gI_eq ex0_1
  obtain rfl := gCons_eq e0_0
  obtain rfl := gI_eq ex0_0
  obtain rfl := asA_eq ea0
  obtain rfl := gCons_eq e0
  refine ⟨rfl, .cons (VA.bareA (by rfl)) (.nil), .bare rfl, fun L => ⟨(.lit (.split (.lit (.lit (.lit (.lit (.split .done (.lit (.split (.lit (.lit (.lit (.lit (.split .done (.lit (.split (.lit (.lit (.lit (.lit (.split .done (.lit (.split (.lit (.lit (.lit (.lit (.split .done (.lit (.split (.lit (.lit (.lit (.lit (.split .done (.lit .done)))))) (.lit (.lit (.lit (.lit (.lit .done)))))))))))) (.lit (.lit (.lit (.lit (.lit .done)))))))))))) (.lit (.lit (.lit (.lit (.lit .done)))))))))))) (.lit (.lit (.lit (.lit (.lit .done)))))))))))) (.lit (.lit (.lit (.lit (.lit .done))))))), ?_⟩⟩
  refine of_eq (b := (fun R : Value → Prop => ((!leQ (Int.ofNat 1) x0_0) = false → ((!leQ x0_0 (Int.ofNat 8)) = true → R (Value.int IntKind.i64 (Int.ofNat 8))) ∧ ((!leQ x0_0 (Int.ofNat 8)) = false → ((!leQ (Int.ofNat 1) x0_1) = false → ((!leQ x0_1 (Int.ofNat 16000)) = true → R (Value.int IntKind.i64 (Int.ofNat 8))) ∧ ((!leQ x0_1 (Int.ofNat 16000)) = false → ((!leQ (Int.ofNat 1) x0_2) = false → ((!leQ x0_2 (Int.ofNat 8)) = true → R (Value.int IntKind.i64 (Int.ofNat 8))) ∧ ((!leQ x0_2 (Int.ofNat 8)) = false → ((!leQ (Int.ofNat 1) x0_3) = false → ((!leQ x0_3 (Int.ofNat 8)) = true → R (Value.int IntKind.i64 (Int.ofNat 8))) ∧ ((!leQ x0_3 (Int.ofNat 8)) = false → ((!leQ (Int.ofNat 1) x0_4) = false → ((!leQ x0_4 (Int.ofNat 8)) = true → R (Value.int IntKind.i64 (Int.ofNat 8))) ∧ ((!leQ x0_4 (Int.ofNat 8)) = false → R (Value.int IntKind.i64 (Int.ofNat 0)))) ∧ ((!leQ (Int.ofNat 1) x0_4) = true → R (Value.int IntKind.i64 (Int.ofNat 8))))) ∧ ((!leQ (Int.ofNat 1) x0_3) = true → R (Value.int IntKind.i64 (Int.ofNat 8))))) ∧ ((!leQ (Int.ofNat 1) x0_2) = true → R (Value.int IntKind.i64 (Int.ofNat 8))))) ∧ ((!leQ (Int.ofNat 1) x0_1) = true → R (Value.int IntKind.i64 (Int.ofNat 8))))) ∧ ((!leQ (Int.ofNat 1) x0_0) = true → R (Value.int IntKind.i64 (Int.ofNat 8)))) (fun v => v = v11 x0_0 x0_1 x0_2 x0_3 x0_4)) (by kernel_rfl) ?_
  dsimp only
  repeat' (first | apply And.intro | intro)
  all_goals simp only [v11, r11_0, *, Abs.iff_true, Abs.iff_false]
noncomputable def r25_0 (x0_0 : Int) (x0_1 : Int) (x0_2 : Int) (x0_3 : Int) (x0_4 : Int) (x1_0 : Int) (x1_1 : Int) (x1_2 : Int) (x1_3 : Int) (x1_4 : Int) : Bool := iff (!leQ (Int.ofNat 0) x1_0) false (iff (!leQ x1_0 x0_0) false (iff (!leQ (Int.ofNat 0) x1_1) false (iff (!leQ x1_1 x0_1) false (iff (!leQ (Int.ofNat 0) x1_2) false (iff (!leQ x1_2 x0_2) false (iff (!leQ (Int.ofNat 0) x1_3) false (iff (!leQ x1_3 (wrapQ IntKind.i64 (Int.sub x0_3 x1_2))) false (iff (!leQ (Int.ofNat 0) x1_4) false (iff (!leQ x1_4 x0_4) false (iff (!leQ x1_0 (Int.ofNat 0)) true (eqQ x1_1 (Int.ofNat 0))))))))))))
noncomputable def v25 (x0_0 : Int) (x0_1 : Int) (x0_2 : Int) (x0_3 : Int) (x0_4 : Int) (x1_0 : Int) (x1_1 : Int) (x1_2 : Int) (x1_3 : Int) (x1_4 : Int) : Value := Value.bool (r25_0 x0_0 x0_1 x0_2 x0_3 x0_4 x1_0 x1_1 x1_2 x1_3 x1_4)
noncomputable def s25 : SpecF := fun args σ => andThen2 (gCons args) fun a0 q0 => andThen2 (gCons q0) fun a1 q1 => andThen (gNil q1) fun _ => andThen (asA a0) fun l0 => andThen2 (gCons l0) fun c0_0 q0_0 => andThen (gI IntKind.i64 c0_0) fun x0_0 => andThen2 (gCons q0_0) fun c0_1 q0_1 => andThen (gI IntKind.i64 c0_1) fun x0_1 => andThen2 (gCons q0_1) fun c0_2 q0_2 => andThen (gI IntKind.i64 c0_2) fun x0_2 => andThen2 (gCons q0_2) fun c0_3 q0_3 => andThen (gI IntKind.i64 c0_3) fun x0_3 => andThen2 (gCons q0_3) fun c0_4 q0_4 => andThen (gI IntKind.i64 c0_4) fun x0_4 => andThen (gNil q0_4) fun _ => andThen (asA a1) fun l1 => andThen2 (gCons l1) fun c1_0 q1_0 => andThen (gI IntKind.i64 c1_0) fun x1_0 => andThen2 (gCons q1_0) fun c1_1 q1_1 => andThen (gI IntKind.i64 c1_1) fun x1_1 => andThen2 (gCons q1_1) fun c1_2 q1_2 => andThen (gI IntKind.i64 c1_2) fun x1_2 => andThen2 (gCons q1_2) fun c1_3 q1_3 => andThen (gI IntKind.i64 c1_3) fun x1_3 => andThen2 (gCons q1_3) fun c1_4 q1_4 => andThen (gI IntKind.i64 c1_4) fun x1_4 => andThen (gNil q1_4) fun _ => some (v25 x0_0 x0_1 x0_2 x0_3 x0_4 x1_0 x1_1 x1_2 x1_3 x1_4, σ)
theorem s25_sim : SpecSim Tryd.prog noG 25 s25 := by
  refine plain_of (call := callL []) ⟨[], [(2, 6)]⟩ mix Tb.tys (callL_ok (fun p hp => by cases hp)) Tryd.func25 (by kernel_rfl) (by kernel_rfl) fun args σ v σ' h => ?_
  obtain ⟨a0, q0, e0, h⟩ := andThen2_eq h
  obtain ⟨a1, q1, e1, h⟩ := andThen2_eq h
  obtain ⟨_, en, h⟩ := andThen_eq h
  obtain ⟨l0, ea0, h⟩ := andThen_eq h
  obtain ⟨c0_0, q0_0, e0_0, h⟩ := andThen2_eq h
  obtain ⟨x0_0, ex0_0, h⟩ := andThen_eq h
  obtain ⟨c0_1, q0_1, e0_1, h⟩ := andThen2_eq h
  obtain ⟨x0_1, ex0_1, h⟩ := andThen_eq h
  obtain ⟨c0_2, q0_2, e0_2, h⟩ := andThen2_eq h
  obtain ⟨x0_2, ex0_2, h⟩ := andThen_eq h
  obtain ⟨c0_3, q0_3, e0_3, h⟩ := andThen2_eq h
  obtain ⟨x0_3, ex0_3, h⟩ := andThen_eq h
  obtain ⟨c0_4, q0_4, e0_4, h⟩ := andThen2_eq h
  obtain ⟨x0_4, ex0_4, h⟩ := andThen_eq h
  obtain ⟨_, en0, h⟩ := andThen_eq h
  obtain ⟨l1, ea1, h⟩ := andThen_eq h
  obtain ⟨c1_0, q1_0, e1_0, h⟩ := andThen2_eq h
  obtain ⟨x1_0, ex1_0, h⟩ := andThen_eq h
  obtain ⟨c1_1, q1_1, e1_1, h⟩ := andThen2_eq h
  obtain ⟨x1_1, ex1_1, h⟩ := andThen_eq h
  obtain ⟨c1_2, q1_2, e1_2, h⟩ := andThen2_eq h
  obtain ⟨x1_2, ex1_2, h⟩ := andThen_eq h
  obtain ⟨c1_3, q1_3, e1_3, h⟩ := andThen2_eq h
  obtain ⟨x1_3, ex1_3, h⟩ := andThen_eq h
  obtain ⟨c1_4, q1_4, e1_4, h⟩ := andThen2_eq h
  obtain ⟨x1_4, ex1_4, h⟩ := andThen_eq h
  obtain ⟨_, en1, h⟩ := andThen_eq h
  cases h
  obtain rfl := gNil_eq en
  obtain rfl := gNil_eq en0
  obtain rfl := gCons_eq e0_4
  obtain rfl := gI_eq ex0_4
  obtain rfl := gCons_eq e0_3
  obtain rfl := gI_eq ex0_3
  obtain rfl := gCons_eq e0_2
  obtain rfl := gI_eq ex0_2
  obtain rfl := gCons_eq e0_1
  obtain rfl := gI_eq ex0_1
  obtain rfl := gCons_eq e0_0
  obtain rfl := gI_eq ex0_0
  obtain rfl := asA_eq ea0
  obtain rfl := gNil_eq en1
  obtain rfl := gCons_eq e1_4
  obtain rfl := gI_eq ex1_4
  obtain rfl := gCons_eq e1_3
  obtain rfl := gI_eq ex1_3
  obtain rfl := gCons_eq e1_2
  obtain rfl := gI_eq ex1_2
  obtain rfl := gCons_eq e1_1
  obtain rfl := gI_eq ex1_1
  obtain rfl := gCons_eq e1_0
  obtain rfl := gI_eq ex1_0
  obtain rfl := asA_eq ea1
  obtain rfl := gCons_eq e1
  obtain rfl := gCons_eq e0
  refine ⟨rfl, .cons (VA.bareA (by rfl)) (.cons (VA.bareA (by rfl)) (.nil)), .bare rfl, fun L => ⟨(.lit (.split (.lit (.lit (.lit (.lit (.split .done (.lit (.split (.lit (.lit (.lit (.lit (.split .done (.lit (.split (.lit (.lit (.lit (.lit (.split .done (.lit (.split (.lit (.lit (.lit (.lit (.split .done (.lit (.split (.lit (.lit (.lit (.lit (.split .done (.lit (.split (.lit (.lit .done)) (.lit (.lit .done))))))))) (.lit (.lit (.lit (.lit (.lit .done)))))))))))) (.lit (.lit (.lit (.lit (.lit .done)))))))))))) (.lit (.lit (.lit (.lit (.lit .done)))))))))))) (.lit (.lit (.lit (.lit (.lit .done)))))))))))) (.lit (.lit (.lit (.lit (.lit .done))))))), ?_⟩⟩
  refine of_eq (b := (fun R : Value → Prop => ((!leQ (Int.ofNat 0) x1_0) = false → ((!leQ x1_0 x0_0) = true → R (Value.bool false)) ∧ ((!leQ x1_0 x0_0) = false → ((!leQ (Int.ofNat 0) x1_1) = false → ((!leQ x1_1 x0_1) = true → R (Value.bool false)) ∧ ((!leQ x1_1 x0_1) = false → ((!leQ (Int.ofNat 0) x1_2) = false → ((!leQ x1_2 x0_2) = true → R (Value.bool false)) ∧ ((!leQ x1_2 x0_2) = false → ((!leQ (Int.ofNat 0) x1_3) = false → ((!leQ x1_3 (wrapQ IntKind.i64 (Int.sub x0_3 x1_2))) = true → R (Value.bool false)) ∧ ((!leQ x1_3 (wrapQ IntKind.i64 (Int.sub x0_3 x1_2))) = false → ((!leQ (Int.ofNat 0) x1_4) = false → ((!leQ x1_4 x0_4) = true → R (Value.bool false)) ∧ ((!leQ x1_4 x0_4) = false → ((!leQ x1_0 (Int.ofNat 0)) = false → R (Value.bool (eqQ x1_1 (Int.ofNat 0)))) ∧ ((!leQ x1_0 (Int.ofNat 0)) = true → R (Value.bool true)))) ∧ ((!leQ (Int.ofNat 0) x1_4) = true → R (Value.bool false)))) ∧ ((!leQ (Int.ofNat 0) x1_3) = true → R (Value.bool false)))) ∧ ((!leQ (Int.ofNat 0) x1_2) = true → R (Value.bool false)))) ∧ ((!leQ (Int.ofNat 0) x1_1) = true → R (Value.bool false)))) ∧ ((!leQ (Int.ofNat 0) x1_0) = true → R (Value.bool false))) (fun v => v = v25 x0_0 x0_1 x0_2 x0_3 x0_4 x1_0 x1_1 x1_2 x1_3 x1_4)) (by kernel_rfl) ?_
  dsimp only
  repeat' (first | apply And.intro | intro)
  all_goals simp only [v25, r25_0, *, Abs.iff_true, Abs.iff_false]
noncomputable def r12_0 (x0_0 : Int) (x0_1 : Int) (x0_2 : Int) (x0_3 : Int) (x0_4 : Int) : Int := iff (!r24_0 x0_0 (Int.ofNat 8)) (Int.ofNat 8) (iff (!r24_0 x0_1 (Int.ofNat 16000)) (Int.ofNat 8) (iff (!r24_0 x0_2 (Int.ofNat 8)) (Int.ofNat 8) (iff (!r24_0 x0_3 (Int.ofNat 8)) (Int.ofNat 8) (iff (!r24_0 x0_4 (Int.ofNat 8)) (Int.ofNat 8) (Int.ofNat 0)))))
noncomputable def v12 (x0_0 : Int) (x0_1 : Int) (x0_2 : Int) (x0_3 : Int) (x0_4 : Int) : Value := Value.int IntKind.i64 (r12_0 x0_0 x0_1 x0_2 x0_3 x0_4)
noncomputable def s12 : SpecF := fun args σ => andThen2 (gCons args) fun a0 q0 => andThen (gNil q0) fun _ => andThen (asA a0) fun l0 => andThen2 (gCons l0) fun c0_0 q0_0 => andThen (gI IntKind.i64 c0_0) fun x0_0 => andThen2 (gCons q0_0) fun c0_1 q0_1 => andThen (gI IntKind.i64 c0_1) fun x0_1 => andThen2 (gCons q0_1) fun c0_2 q0_2 => andThen (gI IntKind.i64 c0_2) fun x0_2 => andThen2 (gCons q0_2) fun c0_3 q0_3 => andThen (gI IntKind.i64 c0_3) fun x0_3 => andThen2 (gCons q0_3) fun c0_4 q0_4 => andThen (gI IntKind.i64 c0_4) fun x0_4 => andThen (gNil q0_4) fun _ => some (v12 x0_0 x0_1 x0_2 x0_3 x0_4, σ)
theorem s12_sim : SpecSim Tryd.prog noG 12 s12 := by
  refine plain_of (call := callL [(24, s24)]) ⟨[], []⟩ mix Tb.tys (callL_ok (fun p hp => by
    simp only [List.mem_cons, List.not_mem_nil, or_false] at hp
    rcases hp with rfl
    · exact s24_sim)) Tryd.func12 (by kernel_rfl) (by kernel_rfl) fun args σ v σ' h => ?_
  obtain ⟨a0, q0, e0, h⟩ := andThen2_eq h
  obtain ⟨_, en, h⟩ := andThen_eq h
  obtain ⟨l0, ea0, h⟩ := andThen_eq h
  obtain ⟨c0_0, q0_0, e0_0, h⟩ := andThen2_eq h
  obtain ⟨x0_0, ex0_0, h⟩ := andThen_eq h
  obtain ⟨c0_1, q0_1, e0_1, h⟩ := andThen2_eq h
  obtain ⟨x0_1, ex0_1, h⟩ := andThen_eq h
  obtain ⟨c0_2, q0_2, e0_2, h⟩ := andThen2_eq h
  obtain ⟨x0_2, ex0_2, h⟩ := andThen_eq h
  obtain ⟨c0_3, q0_3, e0_3, h⟩ := andThen2_eq h
  obtain ⟨x0_3, ex0_3, h⟩ := andThen_eq h
  obtain ⟨c0_4, q0_4, e0_4, h⟩ := andThen2_eq h
  obtain ⟨x0_4, ex0_4, h⟩ := andThen_eq h
  obtain ⟨_, en0, h⟩ := andThen_eq h
  cases h
  obtain rfl := gNil_eq en
  obtain rfl := gNil_eq en0
  obtain rfl := gCons_eq e0_4
  obtain rfl := gI_eq ex0_4
  obtain rfl := gCons_eq e0_3
  obtain rfl := gI_eq ex0_3
  obtain rfl := gCons_eq e0_2
  obtain rfl := gI_eq ex0_2
  obtain rfl := gCons_eq e0_1
  obtain rfl := gI_eq ex0_1
  obtain rfl := gCons_eq e0_0
  obtain rfl := gI_eq ex0_0
  obtain rfl := asA_eq ea0
  obtain rfl := gCons_eq e0
  refine ⟨rfl, .cons (VA.bareA (by rfl)) (.nil), .bare rfl, fun L => ⟨(.split (.lit (.lit (.lit (.split (.lit (.lit (.lit (.split (.lit (.lit (.lit (.split (.lit (.lit (.lit (.split .done .done)))) (.lit (.lit (.lit (.lit .done)))))))) (.lit (.lit (.lit (.lit (.lit (.lit (.lit (.lit .done)))))))))))) (.lit (.lit (.lit (.lit (.lit (.lit (.lit (.lit (.lit (.lit (.lit (.lit .done)))))))))))))))) (.lit (.lit (.lit (.lit (.lit (.lit (.lit (.lit (.lit (.lit (.lit (.lit (.lit (.lit (.lit (.lit .done))))))))))))))))), ?_⟩⟩
  refine of_eq (b := (fun R : Value → Prop => ((!r24_0 x0_0 (Int.ofNat 8)) = false → ((!r24_0 x0_1 (Int.ofNat 16000)) = false → ((!r24_0 x0_2 (Int.ofNat 8)) = false → ((!r24_0 x0_3 (Int.ofNat 8)) = false → ((!r24_0 x0_4 (Int.ofNat 8)) = true → R (Value.int IntKind.i64 (Int.ofNat 8))) ∧ ((!r24_0 x0_4 (Int.ofNat 8)) = false → R (Value.int IntKind.i64 (Int.ofNat 0)))) ∧ ((!r24_0 x0_3 (Int.ofNat 8)) = true → R (Value.int IntKind.i64 (Int.ofNat 8)))) ∧ ((!r24_0 x0_2 (Int.ofNat 8)) = true → R (Value.int IntKind.i64 (Int.ofNat 8)))) ∧ ((!r24_0 x0_1 (Int.ofNat 16000)) = true → R (Value.int IntKind.i64 (Int.ofNat 8)))) ∧ ((!r24_0 x0_0 (Int.ofNat 8)) = true → R (Value.int IntKind.i64 (Int.ofNat 8)))) (fun v => v = v12 x0_0 x0_1 x0_2 x0_3 x0_4)) (by kernel_rfl) ?_
  dsimp only
  repeat' (first | apply And.intro | intro)
  all_goals simp only [v12, r12_0, *, Abs.iff_true, Abs.iff_false]
noncomputable def r26_0 (x0_0 : Int) (x0_1 : Int) (x0_2 : Int) (x0_3 : Int) (x0_4 : Int) (x1_0 : Int) (x1_1 : Int) (x1_2 : Int) (x1_3 : Int) (x1_4 : Int) : Bool := iff (!leQ (Int.ofNat 0) x1_0) false (iff (!leQ (Int.ofNat 0) x1_1) false (iff (!leQ (Int.ofNat 0) x1_2) false (iff (!leQ (Int.ofNat 0) x1_3) false (iff (!leQ (Int.ofNat 0) x1_4) false (iff (!leQ x1_0 x0_0) false (iff (!leQ x1_1 x0_1) false (iff (!leQ x1_2 x0_2) false (iff (!leQ x1_3 x0_3) false (iff (!leQ x1_4 x0_4) false (iff (leQ (wrapQ IntKind.i64 (Int.add x1_2 x1_3)) x0_3) (iff (!leQ x1_0 (Int.ofNat 0)) true (eqQ x1_1 (Int.ofNat 0))) false))))))))))
noncomputable def v26 (x0_0 : Int) (x0_1 : Int) (x0_2 : Int) (x0_3 : Int) (x0_4 : Int) (x1_0 : Int) (x1_1 : Int) (x1_2 : Int) (x1_3 : Int) (x1_4 : Int) : Value := Value.bool (r26_0 x0_0 x0_1 x0_2 x0_3 x0_4 x1_0 x1_1 x1_2 x1_3 x1_4)
noncomputable def s26 : SpecF := fun args σ => andThen2 (gCons args) fun a0 q0 => andThen2 (gCons q0) fun a1 q1 => andThen (gNil q1) fun _ => andThen (asA a0) fun l0 => andThen2 (gCons l0) fun c0_0 q0_0 => andThen (gI IntKind.i64 c0_0) fun x0_0 => andThen2 (gCons q0_0) fun c0_1 q0_1 => andThen (gI IntKind.i64 c0_1) fun x0_1 => andThen2 (gCons q0_1) fun c0_2 q0_2 => andThen (gI IntKind.i64 c0_2) fun x0_2 => andThen2 (gCons q0_2) fun c0_3 q0_3 => andThen (gI IntKind.i64 c0_3) fun x0_3 => andThen2 (gCons q0_3) fun c0_4 q0_4 => andThen (gI IntKind.i64 c0_4) fun x0_4 => andThen (gNil q0_4) fun _ => andThen (asA a1) fun l1 => andThen2 (gCons l1) fun c1_0 q1_0 => andThen (gI IntKind.i64 c1_0) fun x1_0 => andThen2 (gCons q1_0) fun c1_1 q1_1 => andThen (gI IntKind.i64 c1_1) fun x1_1 => andThen2 (gCons q1_1) fun c1_2 q1_2 => andThen (gI IntKind.i64 c1_2) fun x1_2 => andThen2 (gCons q1_2) fun c1_3 q1_3 => andThen (gI IntKind.i64 c1_3) fun x1_3 => andThen2 (gCons q1_3) fun c1_4 q1_4 => andThen (gI IntKind.i64 c1_4) fun x1_4 => andThen (gNil q1_4) fun _ => some (v26 x0_0 x0_1 x0_2 x0_3 x0_4 x1_0 x1_1 x1_2 x1_3 x1_4, σ)
theorem s26_sim : SpecSim Tryd.prog noG 26 s26 := by
  refine plain_of (call := callL []) ⟨[], []⟩ mix Tb.tys (callL_ok (fun p hp => by cases hp)) Tryd.func26 (by kernel_rfl) (by kernel_rfl) fun args σ v σ' h => ?_
  obtain ⟨a0, q0, e0, h⟩ := andThen2_eq h
  obtain ⟨a1, q1, e1, h⟩ := andThen2_eq h
  obtain ⟨_, en, h⟩ := andThen_eq h
  obtain ⟨l0, ea0, h⟩ := andThen_eq h
  obtain ⟨c0_0, q0_0, e0_0, h⟩ := andThen2_eq h
  obtain ⟨x0_0, ex0_0, h⟩ := andThen_eq h
  obtain ⟨c0_1, q0_1, e0_1, h⟩ := andThen2_eq h
  obtain ⟨x0_1, ex0_1, h⟩ := andThen_eq h
  obtain ⟨c0_2, q0_2, e0_2, h⟩ := andThen2_eq h
  obtain ⟨x0_2, ex0_2, h⟩ := andThen_eq h
  obtain ⟨c0_3, q0_3, e0_3, h⟩ := andThen2_eq h
  obtain ⟨x0_3, ex0_3, h⟩ := andThen_eq h
  obtain ⟨c0_4, q0_4, e0_4, h⟩ := andThen2_eq h
  obtain ⟨x0_4, ex0_4, h⟩ := andThen_eq h
  obtain ⟨_, en0, h⟩ := andThen_eq h
  obtain ⟨l1, ea1, h⟩ := andThen_eq h
  obtain ⟨c1_0, q1_0, e1_0, h⟩ := andThen2_eq h
  obtain ⟨x1_0, ex1_0, h⟩ := andThen_eq h
  obtain ⟨c1_1, q1_1, e1_1, h⟩ := andThen2_eq h
  obtain ⟨x1_1, ex1_1, h⟩ := andThen_eq h
  obtain ⟨c1_2, q1_2, e1_2, h⟩ := andThen2_eq h
  obtain ⟨x1_2, ex1_2, h⟩ := andThen_eq h
  obtain ⟨c1_3, q1_3, e1_3, h⟩ := andThen2_eq h
  obtain ⟨x1_3, ex1_3, h⟩ := andThen_eq h
  obtain ⟨c1_4, q1_4, e1_4, h⟩ := andThen2_eq h
  obtain ⟨x1_4, ex1_4, h⟩ := andThen_eq h
  obtain ⟨_, en1, h⟩ := andThen_eq h
  cases h
  obtain rfl := gNil_eq en
  obtain rfl := gNil_eq en0
  obtain rfl := gCons_eq e0_4
  obtain rfl := gI_eq ex0_4
  obtain rfl := gCons_eq e0_3
  obtain rfl := gI_eq ex0_3
  obtain rfl := gCons_eq e0_2
  obtain rfl := gI_eq ex0_2
  obtain rfl := gCons_eq e0_1
  obtain rfl := gI_eq ex0_1
  obtain rfl := gCons_eq e0_0
  obtain rfl := gI_eq ex0_0
  obtain rfl := asA_eq ea0
  obtain rfl := gNil_eq en1
  obtain rfl := gCons_eq e1_4
  obtain rfl := gI_eq ex1_4
  obtain rfl := gCons_eq e1_3
  obtain rfl := gI_eq ex1_3
  obtain rfl := gCons_eq e1_2
  obtain rfl := gI_eq ex1_2
  obtain rfl := gCons_eq e1_1
  obtain rfl := gI_eq ex1_1
  obtain rfl := gCons_eq e1_0
  obtain rfl := gI_eq ex1_0
  obtain rfl := asA_eq ea1
  obtain rfl := gCons_eq e1
  obtain rfl := gCons_eq e0
  refine ⟨rfl, .cons (VA.bareA (by rfl)) (.cons (VA.bareA (by rfl)) (.nil)), .bare rfl, fun L => ⟨(.split (.lit (.lit (.split (.lit (.lit (.split (.lit (.lit (.split (.lit (.lit (.split .done (.split (.lit (.lit (.lit (.lit (.split (.lit (.lit (.lit (.lit (.split (.lit (.lit (.lit (.lit (.split (.lit (.lit (.lit (.lit (.split .done (.split (.lit (.lit (.lit (.split (.lit (.lit (.lit .done))) (.lit (.lit (.lit .done))))))) (.lit (.lit (.lit (.lit (.lit (.lit (.lit .done))))))))))))) (.lit (.lit (.lit (.lit (.lit .done)))))))))) (.lit (.lit (.lit (.lit (.lit (.lit (.lit (.lit (.lit (.lit .done))))))))))))))) (.lit (.lit (.lit (.lit (.lit (.lit (.lit (.lit (.lit (.lit (.lit (.lit (.lit (.lit (.lit .done)))))))))))))))))))) (.lit (.lit (.lit (.lit (.lit (.lit (.lit (.lit (.lit (.lit (.lit (.lit (.lit (.lit (.lit (.lit (.lit (.lit (.lit (.lit .done)))))))))))))))))))))))) (.lit (.lit (.lit .done)))))) (.lit (.lit (.lit (.lit (.lit (.lit .done))))))))) (.lit (.lit (.lit (.lit (.lit (.lit (.lit (.lit (.lit .done)))))))))))) (.lit (.lit (.lit (.lit (.lit (.lit (.lit (.lit (.lit (.lit (.lit (.lit .done))))))))))))), ?_⟩⟩
  refine of_eq (b := (fun R : Value → Prop => ((!leQ (Int.ofNat 0) x1_0) = false → ((!leQ (Int.ofNat 0) x1_1) = false → ((!leQ (Int.ofNat 0) x1_2) = false → ((!leQ (Int.ofNat 0) x1_3) = false → ((!leQ (Int.ofNat 0) x1_4) = true → R (Value.bool false)) ∧ ((!leQ (Int.ofNat 0) x1_4) = false → ((!leQ x1_0 x0_0) = false → ((!leQ x1_1 x0_1) = false → ((!leQ x1_2 x0_2) = false → ((!leQ x1_3 x0_3) = false → ((!leQ x1_4 x0_4) = true → R (Value.bool false)) ∧ ((!leQ x1_4 x0_4) = false → (leQ (wrapQ IntKind.i64 (Int.add x1_2 x1_3)) x0_3 = true → ((!leQ x1_0 (Int.ofNat 0)) = false → R (Value.bool (eqQ x1_1 (Int.ofNat 0)))) ∧ ((!leQ x1_0 (Int.ofNat 0)) = true → R (Value.bool true))) ∧ (leQ (wrapQ IntKind.i64 (Int.add x1_2 x1_3)) x0_3 = false → R (Value.bool false)))) ∧ ((!leQ x1_3 x0_3) = true → R (Value.bool false))) ∧ ((!leQ x1_2 x0_2) = true → R (Value.bool false))) ∧ ((!leQ x1_1 x0_1) = true → R (Value.bool false))) ∧ ((!leQ x1_0 x0_0) = true → R (Value.bool false)))) ∧ ((!leQ (Int.ofNat 0) x1_3) = true → R (Value.bool false))) ∧ ((!leQ (Int.ofNat 0) x1_2) = true → R (Value.bool false))) ∧ ((!leQ (Int.ofNat 0) x1_1) = true → R (Value.bool false))) ∧ ((!leQ (Int.ofNat 0) x1_0) = true → R (Value.bool false))) (fun v => v = v26 x0_0 x0_1 x0_2 x0_3 x0_4 x1_0 x1_1 x1_2 x1_3 x1_4)) (by kernel_rfl) ?_
  dsimp only
  repeat' (first | apply And.intro | intro)
  all_goals simp only [v26, r26_0, *, Abs.iff_true, Abs.iff_false]
noncomputable def r13_0 (x0_0 : Int) (x0_1 : Int) (x0_2 : Int) (x0_3 : Int) (x0_4 : Int) (x1_0 : Int) (x1_1 : Int) (x1_2 : Int) (x1_3 : Int) (x1_4 : Int) : Int := iff (!eqQ (r11_0 x0_0 x0_1 x0_2 x0_3 x0_4) (Int.ofNat 0)) (r11_0 x0_0 x0_1 x0_2 x0_3 x0_4) (iff (!r25_0 x0_0 x0_1 x0_2 x0_3 x0_4 x1_0 x1_1 x1_2 x1_3 x1_4) (Int.ofNat 8) (Int.ofNat 0))
noncomputable def v13 (x0_0 : Int) (x0_1 : Int) (x0_2 : Int) (x0_3 : Int) (x0_4 : Int) (x1_0 : Int) (x1_1 : Int) (x1_2 : Int) (x1_3 : Int) (x1_4 : Int) : Value := Value.int IntKind.i64 (r13_0 x0_0 x0_1 x0_2 x0_3 x0_4 x1_0 x1_1 x1_2 x1_3 x1_4)
noncomputable def s13 : SpecF := fun args σ => andThen2 (gCons args) fun a0 q0 => andThen2 (gCons q0) fun a1 q1 => andThen (gNil q1) fun _ => andThen (asA a0) fun l0 => andThen2 (gCons l0) fun c0_0 q0_0 => andThen (gI IntKind.i64 c0_0) fun x0_0 => andThen2 (gCons q0_0) fun c0_1 q0_1 => andThen (gI IntKind.i64 c0_1) fun x0_1 => andThen2 (gCons q0_1) fun c0_2 q0_2 => andThen (gI IntKind.i64 c0_2) fun x0_2 => andThen2 (gCons q0_2) fun c0_3 q0_3 => andThen (gI IntKind.i64 c0_3) fun x0_3 => andThen2 (gCons q0_3) fun c0_4 q0_4 => andThen (gI IntKind.i64 c0_4) fun x0_4 => andThen (gNil q0_4) fun _ => andThen (asA a1) fun l1 => andThen2 (gCons l1) fun c1_0 q1_0 => andThen (gI IntKind.i64 c1_0) fun x1_0 => andThen2 (gCons q1_0) fun c1_1 q1_1 => andThen (gI IntKind.i64 c1_1) fun x1_1 => andThen2 (gCons q1_1) fun c1_2 q1_2 => andThen (gI IntKind.i64 c1_2) fun x1_2 => andThen2 (gCons q1_2) fun c1_3 q1_3 => andThen (gI IntKind.i64 c1_3) fun x1_3 => andThen2 (gCons q1_3) fun c1_4 q1_4 => andThen (gI IntKind.i64 c1_4) fun x1_4 => andThen (gNil q1_4) fun _ => some (v13 x0_0 x0_1 x0_2 x0_3 x0_4 x1_0 x1_1 x1_2 x1_3 x1_4, σ)
theorem s13_sim : SpecSim Tryd.prog noG 13 s13 := by
  refine plain_of (call := callL [(11, s11), (25, s25)]) ⟨[], []⟩ mix Tb.tys (callL_ok (fun p hp => by
    simp only [List.mem_cons, List.not_mem_nil, or_false] at hp
    rcases hp with rfl | rfl
    · exact s11_sim
    · exact s25_sim)) Tryd.func13 (by kernel_rfl) (by kernel_rfl) fun args σ v σ' h => ?_
  obtain ⟨a0, q0, e0, h⟩ := andThen2_eq h
  obtain ⟨a1, q1, e1, h⟩ := andThen2_eq h
  obtain ⟨_, en, h⟩ := andThen_eq h
  obtain ⟨l0, ea0, h⟩ := andThen_eq h
  obtain ⟨c0_0, q0_0, e0_0, h⟩ := andThen2_eq h
  obtain ⟨x0_0, ex0_0, h⟩ := andThen_eq h
  obtain ⟨c0_1, q0_1, e0_1, h⟩ := andThen2_eq h
  obtain ⟨x0_1, ex0_1, h⟩ := andThen_eq h
  obtain ⟨c0_2, q0_2, e0_2, h⟩ := andThen2_eq h
  obtain ⟨x0_2, ex0_2, h⟩ := andThen_eq h
  obtain ⟨c0_3, q0_3, e0_3, h⟩ := andThen2_eq h
  obtain ⟨x0_3, ex0_3, h⟩ := andThen_eq h
  obtain ⟨c0_4, q0_4, e0_4, h⟩ := andThen2_eq h
  obtain ⟨x0_4, ex0_4, h⟩ := andThen_eq h
  obtain ⟨_, en0, h⟩ := andThen_eq h
  obtain ⟨l1, ea1, h⟩ := andThen_eq h
  obtain ⟨c1_0, q1_0, e1_0, h⟩ := andThen2_eq h
  obtain ⟨x1_0, ex1_0, h⟩ := andThen_eq h
  obtain ⟨c1_1, q1_1, e1_1, h⟩ := andThen2_eq h
  obtain ⟨x1_1, ex1_1, h⟩ := andThen_eq h
  obtain ⟨c1_2, q1_2, e1_2, h⟩ := andThen2_eq h
  obtain ⟨x1_2, ex1_2, h⟩ := andThen_eq h
  obtain ⟨c1_3, q1_3, e1_3, h⟩ := andThen2_eq h
  obtain ⟨x1_3, ex1_3, h⟩ := andThen_eq h
  obtain ⟨c1_4, q1_4, e1_4, h⟩ := andThen2_eq h
  obtain ⟨x1_4, ex1_4, h⟩ := andThen_eq h
  obtain ⟨_, en1, h⟩ := andThen_eq h
  cases h
  obtain rfl := gNil_eq en
  obtain rfl := gNil_eq en0
  obtain rfl := gCons_eq e0_4
  obtain rfl := gI_eq ex0_4
  obtain rfl := gCons_eq e0_3
  obtain rfl := gI_eq ex0_3
  obtain rfl := gCons_eq e0_2
  obtain rfl := gI_eq ex0_2
  obtain rfl := gCons_eq e0_1
  obtain rfl := gI_eq ex0_1
  obtain rfl := gCons_eq e0_0
  obtain rfl := gI_eq ex0_0
  obtain rfl := asA_eq ea0
  obtain rfl := gNil_eq en1
  obtain rfl := gCons_eq e1_4
  obtain rfl := gI_eq ex1_4
  obtain rfl := gCons_eq e1_3
  obtain rfl := gI_eq ex1_3
  obtain rfl := gCons_eq e1_2
  obtain rfl := gI_eq ex1_2
  obtain rfl := gCons_eq e1_1
  obtain rfl := gI_eq ex1_1
  obtain rfl := gCons_eq e1_0
  obtain rfl := gI_eq ex1_0
  obtain rfl := asA_eq ea1
  obtain rfl := gCons_eq e1
  obtain rfl := gCons_eq e0
  refine ⟨rfl, .cons (VA.bareA (by rfl)) (.cons (VA.bareA (by rfl)) (.nil)), .bare rfl, fun L => ⟨(.split .done (.split .done .done)), ?_⟩⟩
  refine of_eq (b := (fun R : Value → Prop => ((!eqQ (r11_0 x0_0 x0_1 x0_2 x0_3 x0_4) (Int.ofNat 0)) = true → R (Value.int IntKind.i64 (r11_0 x0_0 x0_1 x0_2 x0_3 x0_4))) ∧ ((!eqQ (r11_0 x0_0 x0_1 x0_2 x0_3 x0_4) (Int.ofNat 0)) = false → ((!r25_0 x0_0 x0_1 x0_2 x0_3 x0_4 x1_0 x1_1 x1_2 x1_3 x1_4) = true → R (Value.int IntKind.i64 (Int.ofNat 8))) ∧ ((!r25_0 x0_0 x0_1 x0_2 x0_3 x0_4 x1_0 x1_1 x1_2 x1_3 x1_4) = false → R (Value.int IntKind.i64 (Int.ofNat 0))))) (fun v => v = v13 x0_0 x0_1 x0_2 x0_3 x0_4 x1_0 x1_1 x1_2 x1_3 x1_4)) (by kernel_rfl) ?_
  dsimp only
  repeat' (first | apply And.intro | intro)
  all_goals simp only [v13, r13_0, *, Abs.iff_true, Abs.iff_false]
noncomputable def r14_0 (x0_0 : Int) (x0_1 : Int) (x0_2 : Int) (x0_3 : Int) (x0_4 : Int) (x1_0 : Int) (x1_1 : Int) (x1_2 : Int) (x1_3 : Int) (x1_4 : Int) : Int := iff (!eqQ (r12_0 x0_0 x0_1 x0_2 x0_3 x0_4) (Int.ofNat 0)) (r12_0 x0_0 x0_1 x0_2 x0_3 x0_4) (iff (!r26_0 x0_0 x0_1 x0_2 x0_3 x0_4 x1_0 x1_1 x1_2 x1_3 x1_4) (Int.ofNat 8) (Int.ofNat 0))
noncomputable def v14 (x0_0 : Int) (x0_1 : Int) (x0_2 : Int) (x0_3 : Int) (x0_4 : Int) (x1_0 : Int) (x1_1 : Int) (x1_2 : Int) (x1_3 : Int) (x1_4 : Int) : Value := Value.int IntKind.i64 (r14_0 x0_0 x0_1 x0_2 x0_3 x0_4 x1_0 x1_1 x1_2 x1_3 x1_4)
noncomputable def s14 : SpecF := fun args σ => andThen2 (gCons args) fun a0 q0 => andThen2 (gCons q0) fun a1 q1 => andThen (gNil q1) fun _ => andThen (asA a0) fun l0 => andThen2 (gCons l0) fun c0_0 q0_0 => andThen (gI IntKind.i64 c0_0) fun x0_0 => andThen2 (gCons q0_0) fun c0_1 q0_1 => andThen (gI IntKind.i64 c0_1) fun x0_1 => andThen2 (gCons q0_1) fun c0_2 q0_2 => andThen (gI IntKind.i64 c0_2) fun x0_2 => andThen2 (gCons q0_2) fun c0_3 q0_3 => andThen (gI IntKind.i64 c0_3) fun x0_3 => andThen2 (gCons q0_3) fun c0_4 q0_4 => andThen (gI IntKind.i64 c0_4) fun x0_4 => andThen (gNil q0_4) fun _ => andThen (asA a1) fun l1 => andThen2 (gCons l1) fun c1_0 q1_0 => andThen (gI IntKind.i64 c1_0) fun x1_0 => andThen2 (gCons q1_0) fun c1_1 q1_1 => andThen (gI IntKind.i64 c1_1) fun x1_1 => andThen2 (gCons q1_1) fun c1_2 q1_2 => andThen (gI IntKind.i64 c1_2) fun x1_2 => andThen2 (gCons q1_2) fun c1_3 q1_3 => andThen (gI IntKind.i64 c1_3) fun x1_3 => andThen2 (gCons q1_3) fun c1_4 q1_4 => andThen (gI IntKind.i64 c1_4) fun x1_4 => andThen (gNil q1_4) fun _ => some (v14 x0_0 x0_1 x0_2 x0_3 x0_4 x1_0 x1_1 x1_2 x1_3 x1_4, σ)
theorem s14_sim : SpecSim Tryd.prog noG 14 s14 := by
  refine plain_of (call := callL [(12, s12), (26, s26)]) ⟨[], []⟩ mix Tb.tys (callL_ok (fun p hp => by
    simp only [List.mem_cons, List.not_mem_nil, or_false] at hp
    rcases hp with rfl | rfl
    · exact s12_sim
    · exact s26_sim)) Tryd.func14 (by kernel_rfl) (by kernel_rfl) fun args σ v σ' h => ?_
  obtain ⟨a0, q0, e0, h⟩ := andThen2_eq h
  obtain ⟨a1, q1, e1, h⟩ := andThen2_eq h
  obtain ⟨_, en, h⟩ := andThen_eq h
  obtain ⟨l0, ea0, h⟩ := andThen_eq h
  obtain ⟨c0_0, q0_0, e0_0, h⟩ := andThen2_eq h
  obtain ⟨x0_0, ex0_0, h⟩ := andThen_eq h
  obtain ⟨c0_1, q0_1, e0_1, h⟩ := andThen2_eq h
  obtain ⟨x0_1, ex0_1, h⟩ := andThen_eq h
  obtain ⟨c0_2, q0_2, e0_2, h⟩ := andThen2_eq h
  obtain ⟨x0_2, ex0_2, h⟩ := andThen_eq h
  obtain ⟨c0_3, q0_3, e0_3, h⟩ := andThen2_eq h
  obtain ⟨x0_3, ex0_3, h⟩ := andThen_eq h
  obtain ⟨c0_4, q0_4, e0_4, h⟩ := andThen2_eq h
  obtain ⟨x0_4, ex0_4, h⟩ := andThen_eq h
  obtain ⟨_, en0, h⟩ := andThen_eq h
  obtain ⟨l1, ea1, h⟩ := andThen_eq h
  obtain ⟨c1_0, q1_0, e1_0, h⟩ := andThen2_eq h
  obtain ⟨x1_0, ex1_0, h⟩ := andThen_eq h
  obtain ⟨c1_1, q1_1, e1_1, h⟩ := andThen2_eq h
  obtain ⟨x1_1, ex1_1, h⟩ := andThen_eq h
  obtain ⟨c1_2, q1_2, e1_2, h⟩ := andThen2_eq h
  obtain ⟨x1_2, ex1_2, h⟩ := andThen_eq h
  obtain ⟨c1_3, q1_3, e1_3, h⟩ := andThen2_eq h
  obtain ⟨x1_3, ex1_3, h⟩ := andThen_eq h
  obtain ⟨c1_4, q1_4, e1_4, h⟩ := andThen2_eq h
  obtain ⟨x1_4, ex1_4, h⟩ := andThen_eq h
  obtain ⟨_, en1, h⟩ := andThen_eq h
  cases h
  obtain rfl := gNil_eq en
  obtain rfl := gNil_eq en0
  obtain rfl := gCons_eq e0_4
  obtain rfl := gI_eq ex0_4
  obtain rfl := gCons_eq e0_3
  obtain rfl := gI_eq ex0_3
  obtain rfl := gCons_eq e0_2
  obtain rfl := gI_eq ex0_2
  obtain rfl := gCons_eq e0_1
  obtain rfl := gI_eq ex0_1
  obtain rfl := gCons_eq e0_0
  obtain rfl := gI_eq ex0_0
  obtain rfl := asA_eq ea0
  obtain rfl := gNil_eq en1
  obtain rfl := gCons_eq e1_4
  obtain rfl := gI_eq ex1_4
  obtain rfl := gCons_eq e1_3
  obtain rfl := gI_eq ex1_3
  obtain rfl := gCons_eq e1_2
  obtain rfl := gI_eq ex1_2
  obtain rfl := gCons_eq e1_1
  obtain rfl := gI_eq ex1_1
  obtain rfl := gCons_eq e1_0
  obtain rfl := gI_eq ex1_0
  obtain rfl := asA_eq ea1
  obtain rfl := gCons_eq e1
  obtain rfl := gCons_eq e0
  refine ⟨rfl, .cons (VA.bareA (by rfl)) (.cons (VA.bareA (by rfl)) (.nil)), .bare rfl, fun L => ⟨(.split .done (.split .done .done)), ?_⟩⟩
  refine of_eq (b := (fun R : Value → Prop => ((!eqQ (r12_0 x0_0 x0_1 x0_2 x0_3 x0_4) (Int.ofNat 0)) = true → R (Value.int IntKind.i64 (r12_0 x0_0 x0_1 x0_2 x0_3 x0_4))) ∧ ((!eqQ (r12_0 x0_0 x0_1 x0_2 x0_3 x0_4) (Int.ofNat 0)) = false → ((!r26_0 x0_0 x0_1 x0_2 x0_3 x0_4 x1_0 x1_1 x1_2 x1_3 x1_4) = true → R (Value.int IntKind.i64 (Int.ofNat 8))) ∧ ((!r26_0 x0_0 x0_1 x0_2 x0_3 x0_4 x1_0 x1_1 x1_2 x1_3 x1_4) = false → R (Value.int IntKind.i64 (Int.ofNat 0))))) (fun v => v = v14 x0_0 x0_1 x0_2 x0_3 x0_4 x1_0 x1_1 x1_2 x1_3 x1_4)) (by kernel_rfl) ?_
  dsimp only
  repeat' (first | apply And.intro | intro)
  all_goals simp only [v14, r14_0, *, Abs.iff_true, Abs.iff_false]
noncomputable def r29_0 (x0_0 : Int) (x0_1 : Int) : Bool := iff (eqQ x0_0 (Int.ofNat 1)) (iff (leQ (Int.ofNat 0) x0_1) (leQ x0_1 (Int.ofNat 2000)) false) (iff (eqQ x0_0 (Int.ofNat 2)) (iff (leQ (Int.ofNat 0) x0_1) (leQ x0_1 (Int.ofNat 2000)) false) (iff (eqQ x0_0 (Int.ofNat 4)) (iff (leQ (Int.ofNat 1) x0_1) (leQ x0_1 (Int.ofNat 9)) false) (iff (eqQ x0_0 (Int.ofNat 3)) (eqQ x0_1 (Int.ofNat 0)) (iff (eqQ x0_0 (Int.ofNat 5)) (eqQ x0_1 (Int.ofNat 0)) (iff (eqQ x0_0 (Int.ofNat 6)) (eqQ x0_1 (Int.ofNat 0)) (iff (eqQ x0_0 (Int.ofNat 7)) (eqQ x0_1 (Int.ofNat 0)) false))))))
noncomputable def v29 (x0_0 : Int) (x0_1 : Int) : Value := Value.bool (r29_0 x0_0 x0_1)
noncomputable def s29 : SpecF := fun args σ => andThen2 (gCons args) fun a0 q0 => andThen (gNil q0) fun _ => andThen (asA a0) fun l0 => andThen2 (gCons l0) fun c0_0 q0_0 => andThen (gI IntKind.u8 c0_0) fun x0_0 => andThen2 (gCons q0_0) fun c0_1 q0_1 => andThen (gI IntKind.i64 c0_1) fun x0_1 => andThen (gNil q0_1) fun _ => some (v29 x0_0 x0_1, σ)
theorem s29_sim : SpecSim Tryd.prog noG 29 s29 := by
  refine plain_of (call := callL []) ⟨[], []⟩ mix Tb.tys (callL_ok (fun p hp => by cases hp)) Tryd.func29 (by kernel_rfl) (by kernel_rfl) fun args σ v σ' h => ?_
  obtain ⟨a0, q0, e0, h⟩ := andThen2_eq h
  obtain ⟨_, en, h⟩ := andThen_eq h
  obtain ⟨l0, ea0, h⟩ := andThen_eq h
  obtain ⟨c0_0, q0_0, e0_0, h⟩ := andThen2_eq h
  obtain ⟨x0_0, ex0_0, h⟩ := andThen_eq h
  obtain ⟨c0_1, q0_1, e0_1, h⟩ := andThen2_eq h
  obtain ⟨x0_1, ex0_1, h⟩ := andThen_eq h
  obtain ⟨_, en0, h⟩ := andThen_eq h
  cases h
  obtain rfl := gNil_eq en
  obtain rfl := gNil_eq en0
  obtain rfl := gCons_eq e0_1
  obtain rfl := gI_eq ex0_1
  obtain rfl := gCons_eq e0_0
  obtain rfl := gI_eq ex0_0
  obtain rfl := asA_eq ea0
  obtain rfl := gCons_eq e0
  refine ⟨rfl, .cons (VA.bareA (by rfl)) (.nil), .bare rfl, fun L => ⟨(.split (.lit (.split (.lit (.lit .done)) (.lit (.lit .done)))) (.split (.split (.lit (.lit .done)) (.lit (.lit .done))) (.split (.split (.lit (.lit .done)) (.lit (.lit .done))) (.split (.lit .done) (.split (.lit .done) (.split (.lit .done) (.split .done .done))))))), ?_⟩⟩
  refine of_eq (b := (fun R : Value → Prop => (eqQ x0_0 (Int.ofNat 1) = true → (leQ (Int.ofNat 0) x0_1 = true → R (Value.bool (leQ x0_1 (Int.ofNat 2000)))) ∧ (leQ (Int.ofNat 0) x0_1 = false → R (Value.bool false))) ∧ (eqQ x0_0 (Int.ofNat 1) = false → (eqQ x0_0 (Int.ofNat 2) = true → (leQ (Int.ofNat 0) x0_1 = true → R (Value.bool (leQ x0_1 (Int.ofNat 2000)))) ∧ (leQ (Int.ofNat 0) x0_1 = false → R (Value.bool false))) ∧ (eqQ x0_0 (Int.ofNat 2) = false → (eqQ x0_0 (Int.ofNat 4) = true → (leQ (Int.ofNat 1) x0_1 = true → R (Value.bool (leQ x0_1 (Int.ofNat 9)))) ∧ (leQ (Int.ofNat 1) x0_1 = false → R (Value.bool false))) ∧ (eqQ x0_0 (Int.ofNat 4) = false → (eqQ x0_0 (Int.ofNat 3) = true → R (Value.bool (eqQ x0_1 (Int.ofNat 0)))) ∧ (eqQ x0_0 (Int.ofNat 3) = false → (eqQ x0_0 (Int.ofNat 5) = true → R (Value.bool (eqQ x0_1 (Int.ofNat 0)))) ∧ (eqQ x0_0 (Int.ofNat 5) = false → (eqQ x0_0 (Int.ofNat 6) = true → R (Value.bool (eqQ x0_1 (Int.ofNat 0)))) ∧ (eqQ x0_0 (Int.ofNat 6) = false → (eqQ x0_0 (Int.ofNat 7) = true → R (Value.bool (eqQ x0_1 (Int.ofNat 0)))) ∧ (eqQ x0_0 (Int.ofNat 7) = false → R (Value.bool false))))))))) (fun v => v = v29 x0_0 x0_1)) (by kernel_rfl) ?_
  dsimp only
  repeat' (first | apply And.intro | intro)
  all_goals simp only [v29, r29_0, *, Abs.iff_true, Abs.iff_false]
noncomputable def r30_0 (x0_0 : Int) (x0_1 : Int) (x0_2 : Int) (x0_3 : Int) (x0_4 : Int) (x1_0 : Int) (x1_1 : Int) : Int := iff (eqQ x1_0 (Int.ofNat 1)) (wrapQ IntKind.i64 (Int.add x0_0 (Int.ofNat 1))) (iff (eqQ x1_0 (Int.ofNat 2)) (wrapQ IntKind.i64 (Int.sub x0_0 (Int.ofNat 1))) (iff (eqQ x1_0 (Int.ofNat 3)) x0_0 (iff (eqQ x1_0 (Int.ofNat 4)) (iff (eqQ x1_1 (Int.ofNat 6)) x0_0 x0_0) (iff (eqQ x1_0 (Int.ofNat 5)) x0_0 (iff (eqQ x1_0 (Int.ofNat 6)) x0_0 (iff (eqQ x1_0 (Int.ofNat 7)) x0_0 x0_0))))))
noncomputable def r30_1 (x0_0 : Int) (x0_1 : Int) (x0_2 : Int) (x0_3 : Int) (x0_4 : Int) (x1_0 : Int) (x1_1 : Int) : Int := iff (eqQ x1_0 (Int.ofNat 1)) (wrapQ IntKind.i64 (Int.add x0_1 x1_1)) (iff (eqQ x1_0 (Int.ofNat 2)) (wrapQ IntKind.i64 (Int.sub x0_1 x1_1)) (iff (eqQ x1_0 (Int.ofNat 3)) x0_1 (iff (eqQ x1_0 (Int.ofNat 4)) (iff (eqQ x1_1 (Int.ofNat 6)) x0_1 x0_1) (iff (eqQ x1_0 (Int.ofNat 5)) x0_1 (iff (eqQ x1_0 (Int.ofNat 6)) x0_1 (iff (eqQ x1_0 (Int.ofNat 7)) x0_1 x0_1))))))
noncomputable def r30_2 (x0_0 : Int) (x0_1 : Int) (x0_2 : Int) (x0_3 : Int) (x0_4 : Int) (x1_0 : Int) (x1_1 : Int) : Int := iff (eqQ x1_0 (Int.ofNat 1)) x0_2 (iff (eqQ x1_0 (Int.ofNat 2)) x0_2 (iff (eqQ x1_0 (Int.ofNat 3)) (wrapQ IntKind.i64 (Int.add x0_2 (Int.ofNat 1))) (iff (eqQ x1_0 (Int.ofNat 4)) (iff (eqQ x1_1 (Int.ofNat 6)) (wrapQ IntKind.i64 (Int.sub x0_2 (Int.ofNat 1))) (wrapQ IntKind.i64 (Int.sub x0_2 (Int.ofNat 1)))) (iff (eqQ x1_0 (Int.ofNat 5)) x0_2 (iff (eqQ x1_0 (Int.ofNat 6)) x0_2 (iff (eqQ x1_0 (Int.ofNat 7)) x0_2 x0_2))))))
noncomputable def r30_3 (x0_0 : Int) (x0_1 : Int) (x0_2 : Int) (x0_3 : Int) (x0_4 : Int) (x1_0 : Int) (x1_1 : Int) : Int := iff (eqQ x1_0 (Int.ofNat 1)) x0_3 (iff (eqQ x1_0 (Int.ofNat 2)) x0_3 (iff (eqQ x1_0 (Int.ofNat 3)) x0_3 (iff (eqQ x1_0 (Int.ofNat 4)) (iff (eqQ x1_1 (Int.ofNat 6)) (wrapQ IntKind.i64 (Int.add x0_3 (Int.ofNat 1))) x0_3) (iff (eqQ x1_0 (Int.ofNat 5)) (wrapQ IntKind.i64 (Int.sub x0_3 (Int.ofNat 1))) (iff (eqQ x1_0 (Int.ofNat 6)) x0_3 (iff (eqQ x1_0 (Int.ofNat 7)) x0_3 x0_3))))))
noncomputable def r30_4 (x0_0 : Int) (x0_1 : Int) (x0_2 : Int) (x0_3 : Int) (x0_4 : Int) (x1_0 : Int) (x1_1 : Int) : Int := iff (eqQ x1_0 (Int.ofNat 1)) x0_4 (iff (eqQ x1_0 (Int.ofNat 2)) x0_4 (iff (eqQ x1_0 (Int.ofNat 3)) x0_4 (iff (eqQ x1_0 (Int.ofNat 4)) (iff (eqQ x1_1 (Int.ofNat 6)) x0_4 x0_4) (iff (eqQ x1_0 (Int.ofNat 5)) x0_4 (iff (eqQ x1_0 (Int.ofNat 6)) (wrapQ IntKind.i64 (Int.add x0_4 (Int.ofNat 1))) (iff (eqQ x1_0 (Int.ofNat 7)) (wrapQ IntKind.i64 (Int.sub x0_4 (Int.ofNat 1))) x0_4))))))
noncomputable def r30_5 (x0_0 : Int) (x0_1 : Int) (x0_2 : Int) (x0_3 : Int) (x0_4 : Int) (x1_0 : Int) (x1_1 : Int) : Bool := iff (eqQ x1_0 (Int.ofNat 1)) false (iff (eqQ x1_0 (Int.ofNat 2)) true (iff (eqQ x1_0 (Int.ofNat 3)) false (iff (eqQ x1_0 (Int.ofNat 4)) (iff (eqQ x1_1 (Int.ofNat 6)) true true) (iff (eqQ x1_0 (Int.ofNat 5)) true (iff (eqQ x1_0 (Int.ofNat 6)) false (iff (eqQ x1_0 (Int.ofNat 7)) true true))))))
noncomputable def v30 (x0_0 : Int) (x0_1 : Int) (x0_2 : Int) (x0_3 : Int) (x0_4 : Int) (x1_0 : Int) (x1_1 : Int) : Value := Value.tuple (Array.mk [Value.agg (Array.mk [Value.int IntKind.i64 (r30_0 x0_0 x0_1 x0_2 x0_3 x0_4 x1_0 x1_1), Value.int IntKind.i64 (r30_1 x0_0 x0_1 x0_2 x0_3 x0_4 x1_0 x1_1), Value.int IntKind.i64 (r30_2 x0_0 x0_1 x0_2 x0_3 x0_4 x1_0 x1_1), Value.int IntKind.i64 (r30_3 x0_0 x0_1 x0_2 x0_3 x0_4 x1_0 x1_1), Value.int IntKind.i64 (r30_4 x0_0 x0_1 x0_2 x0_3 x0_4 x1_0 x1_1)]), Value.bool (r30_5 x0_0 x0_1 x0_2 x0_3 x0_4 x1_0 x1_1)])
noncomputable def s30 : SpecF := fun args σ => andThen2 (gCons args) fun a0 q0 => andThen2 (gCons q0) fun a1 q1 => andThen (gNil q1) fun _ => andThen (asA a0) fun l0 => andThen2 (gCons l0) fun c0_0 q0_0 => andThen (gI IntKind.i64 c0_0) fun x0_0 => andThen2 (gCons q0_0) fun c0_1 q0_1 => andThen (gI IntKind.i64 c0_1) fun x0_1 => andThen2 (gCons q0_1) fun c0_2 q0_2 => andThen (gI IntKind.i64 c0_2) fun x0_2 => andThen2 (gCons q0_2) fun c0_3 q0_3 => andThen (gI IntKind.i64 c0_3) fun x0_3 => andThen2 (gCons q0_3) fun c0_4 q0_4 => andThen (gI IntKind.i64 c0_4) fun x0_4 => andThen (gNil q0_4) fun _ => andThen (asA a1) fun l1 => andThen2 (gCons l1) fun c1_0 q1_0 => andThen (gI IntKind.u8 c1_0) fun x1_0 => andThen2 (gCons q1_0) fun c1_1 q1_1 => andThen (gI IntKind.i64 c1_1) fun x1_1 => andThen (gNil q1_1) fun _ => some (v30 x0_0 x0_1 x0_2 x0_3 x0_4 x1_0 x1_1, σ)
theorem s30_sim : SpecSim Tryd.prog noG 30 s30 := by
  refine plain_of (call := callL []) ⟨[], []⟩ mix Tb.tys (callL_ok (fun p hp => by cases hp)) Tryd.func30 (by kernel_rfl) (by kernel_rfl) fun args σ v σ' h => ?_
  obtain ⟨a0, q0, e0, h⟩ := andThen2_eq h
  obtain ⟨a1, q1, e1, h⟩ := andThen2_eq h
  obtain ⟨_, en, h⟩ := andThen_eq h
  obtain ⟨l0, ea0, h⟩ := andThen_eq h
  obtain ⟨c0_0, q0_0, e0_0, h⟩ := andThen2_eq h
  obtain ⟨x0_0, ex0_0, h⟩ := andThen_eq h
  obtain ⟨c0_1, q0_1, e0_1, h⟩ := andThen2_eq h
  obtain ⟨x0_1, ex0_1, h⟩ := andThen_eq h
  obtain ⟨c0_2, q0_2, e0_2, h⟩ := andThen2_eq h
  obtain ⟨x0_2, ex0_2, h⟩ := andThen_eq h
  obtain ⟨c0_3, q0_3, e0_3, h⟩ := andThen2_eq h
  obtain ⟨x0_3, ex0_3, h⟩ := andThen_eq h
  obtain ⟨c0_4, q0_4, e0_4, h⟩ := andThen2_eq h
  obtain ⟨x0_4, ex0_4, h⟩ := andThen_eq h
  obtain ⟨_, en0, h⟩ := andThen_eq h
  obtain ⟨l1, ea1, h⟩ := andThen_eq h
  obtain ⟨c1_0, q1_0, e1_0, h⟩ := andThen2_eq h
  obtain ⟨x1_0, ex1_0, h⟩ := andThen_eq h
  obtain ⟨c1_1, q1_1, e1_1, h⟩ := andThen2_eq h
  obtain ⟨x1_1, ex1_1, h⟩ := andThen_eq h
  obtain ⟨_, en1, h⟩ := andThen_eq h
  cases h
  obtain rfl := gNil_eq en
  obtain rfl := gNil_eq en0
  obtain rfl := gCons_eq e0_4
  obtain rfl := gI_eq ex0_4
  obtain rfl := gCons_eq e0_3
  obtain rfl := gI_eq ex0_3
  obtain rfl := gCons_eq e0_2
  obtain rfl := gI_eq ex0_2
  obtain rfl := gCons_eq e0_1
  obtain rfl := gI_eq ex0_1
  obtain rfl := gCons_eq e0_0
  obtain rfl := gI_eq ex0_0
  obtain rfl := asA_eq ea0
  obtain rfl := gNil_eq en1
  obtain rfl := gCons_eq e1_1
  obtain rfl := gI_eq ex1_1
  obtain rfl := gCons_eq e1_0
  obtain rfl := gI_eq ex1_0
  obtain rfl := asA_eq ea1
  obtain rfl := gCons_eq e1
  obtain rfl := gCons_eq e0
  refine ⟨rfl, .cons (VA.bareA (by rfl)) (.cons (VA.bareA (by rfl)) (.nil)), VA.bareR (by rfl), fun L => ⟨(.split .done (.split .done (.split .done (.split (.split .done .done) (.split .done (.split .done (.split .done .done))))))), ?_⟩⟩
  refine of_eq (b := (fun R : Value → Prop => (eqQ x1_0 (Int.ofNat 1) = true → R (Value.tuple (Array.mk [Value.agg (Array.mk [Value.int IntKind.i64 (wrapQ IntKind.i64 (Int.add x0_0 (Int.ofNat 1))), Value.int IntKind.i64 (wrapQ IntKind.i64 (Int.add x0_1 x1_1)), Value.int IntKind.i64 x0_2, Value.int IntKind.i64 x0_3, Value.int IntKind.i64 x0_4]), Value.bool false]))) ∧ (eqQ x1_0 (Int.ofNat 1) = false → (eqQ x1_0 (Int.ofNat 2) = true → R (Value.tuple (Array.mk [Value.agg (Array.mk [Value.int IntKind.i64 (wrapQ IntKind.i64 (Int.sub x0_0 (Int.ofNat 1))), Value.int IntKind.i64 (wrapQ IntKind.i64 (Int.sub x0_1 x1_1)), Value.int IntKind.i64 x0_2, Value.int IntKind.i64 x0_3, Value.int IntKind.i64 x0_4]), Value.bool true]))) ∧ (eqQ x1_0 (Int.ofNat 2) = false → (eqQ x1_0 (Int.ofNat 3) = true → R (Value.tuple (Array.mk [Value.agg (Array.mk [Value.int IntKind.i64 x0_0, Value.int IntKind.i64 x0_1, Value.int IntKind.i64 (wrapQ IntKind.i64 (Int.add x0_2 (Int.ofNat 1))), Value.int IntKind.i64 x0_3, Value.int IntKind.i64 x0_4]), Value.bool false]))) ∧ (eqQ x1_0 (Int.ofNat 3) = false → (eqQ x1_0 (Int.ofNat 4) = true → (eqQ x1_1 (Int.ofNat 6) = true → R (Value.tuple (Array.mk [Value.agg (Array.mk [Value.int IntKind.i64 x0_0, Value.int IntKind.i64 x0_1, Value.int IntKind.i64 (wrapQ IntKind.i64 (Int.sub x0_2 (Int.ofNat 1))), Value.int IntKind.i64 (wrapQ IntKind.i64 (Int.add x0_3 (Int.ofNat 1))), Value.int IntKind.i64 x0_4]), Value.bool true]))) ∧ (eqQ x1_1 (Int.ofNat 6) = false → R (Value.tuple (Array.mk [Value.agg (Array.mk [Value.int IntKind.i64 x0_0, Value.int IntKind.i64 x0_1, Value.int IntKind.i64 (wrapQ IntKind.i64 (Int.sub x0_2 (Int.ofNat 1))), Value.int IntKind.i64 x0_3, Value.int IntKind.i64 x0_4]), Value.bool true])))) ∧ (eqQ x1_0 (Int.ofNat 4) = false → (eqQ x1_0 (Int.ofNat 5) = true → R (Value.tuple (Array.mk [Value.agg (Array.mk [Value.int IntKind.i64 x0_0, Value.int IntKind.i64 x0_1, Value.int IntKind.i64 x0_2, Value.int IntKind.i64 (wrapQ IntKind.i64 (Int.sub x0_3 (Int.ofNat 1))), Value.int IntKind.i64 x0_4]), Value.bool true]))) ∧ (eqQ x1_0 (Int.ofNat 5) = false → (eqQ x1_0 (Int.ofNat 6) = true → R (Value.tuple (Array.mk [Value.agg (Array.mk [Value.int IntKind.i64 x0_0, Value.int IntKind.i64 x0_1, Value.int IntKind.i64 x0_2, Value.int IntKind.i64 x0_3, Value.int IntKind.i64 (wrapQ IntKind.i64 (Int.add x0_4 (Int.ofNat 1)))]), Value.bool false]))) ∧ (eqQ x1_0 (Int.ofNat 6) = false → (eqQ x1_0 (Int.ofNat 7) = true → R (Value.tuple (Array.mk [Value.agg (Array.mk [Value.int IntKind.i64 x0_0, Value.int IntKind.i64 x0_1, Value.int IntKind.i64 x0_2, Value.int IntKind.i64 x0_3, Value.int IntKind.i64 (wrapQ IntKind.i64 (Int.sub x0_4 (Int.ofNat 1)))]), Value.bool true]))) ∧ (eqQ x1_0 (Int.ofNat 7) = false → R (Value.tuple (Array.mk [Value.agg (Array.mk [Value.int IntKind.i64 x0_0, Value.int IntKind.i64 x0_1, Value.int IntKind.i64 x0_2, Value.int IntKind.i64 x0_3, Value.int IntKind.i64 x0_4]), Value.bool true])))))))))) (fun v => v = v30 x0_0 x0_1 x0_2 x0_3 x0_4 x1_0 x1_1)) (by kernel_rfl) ?_
  dsimp only
  repeat' (first | apply And.intro | intro)
  all_goals simp only [v30, r30_0, r30_1, r30_2, r30_3, r30_4, r30_5, *, Abs.iff_true, Abs.iff_false]
noncomputable def v28 (x0_0 : Int) (x0_1 : Int) (x0_2 : Int) (x0_3 : Int) (x0_4 : Int) (x0_5 : Int) (x0_6 : Int) : Value := Value.bool !leQ (wrapQ IntKind.i64 (Int.add (wrapQ IntKind.i64 (Int.add (wrapQ IntKind.i64 (Int.add x0_0 x0_1)) x0_2)) x0_3)) (Int.ofNat 0)
noncomputable def s28 : SpecF := fun args σ => andThen2 (gCons args) fun a0 q0 => andThen (gNil q0) fun _ => andThen (asA a0) fun l0 => andThen2 (gCons l0) fun c0_0 q0_0 => andThen (gI IntKind.i64 c0_0) fun x0_0 => andThen2 (gCons q0_0) fun c0_1 q0_1 => andThen (gI IntKind.i64 c0_1) fun x0_1 => andThen2 (gCons q0_1) fun c0_2 q0_2 => andThen (gI IntKind.i64 c0_2) fun x0_2 => andThen2 (gCons q0_2) fun c0_3 q0_3 => andThen (gI IntKind.i64 c0_3) fun x0_3 => andThen2 (gCons q0_3) fun c0_4 q0_4 => andThen (gI IntKind.i64 c0_4) fun x0_4 => andThen2 (gCons q0_4) fun c0_5 q0_5 => andThen (gI IntKind.i64 c0_5) fun x0_5 => andThen2 (gCons q0_5) fun c0_6 q0_6 => andThen (gI IntKind.i64 c0_6) fun x0_6 => andThen (gNil q0_6) fun _ => some (v28 x0_0 x0_1 x0_2 x0_3 x0_4 x0_5 x0_6, σ)
theorem s28_sim : SpecSim Tryd.prog noG 28 s28 := by
  refine plain_of (call := callL []) ⟨[], []⟩ mix Tb.tys (callL_ok (fun p hp => by cases hp)) Tryd.func28 (by kernel_rfl) (by kernel_rfl) fun args σ v σ' h => ?_
  obtain ⟨a0, q0, e0, h⟩ := andThen2_eq h
  obtain ⟨_, en, h⟩ := andThen_eq h
  obtain ⟨l0, ea0, h⟩ := andThen_eq h
  obtain ⟨c0_0, q0_0, e0_0, h⟩ := andThen2_eq h
  obtain ⟨x0_0, ex0_0, h⟩ := andThen_eq h
  obtain ⟨c0_1, q0_1, e0_1, h⟩ := andThen2_eq h
  obtain ⟨x0_1, ex0_1, h⟩ := andThen_eq h
  obtain ⟨c0_2, q0_2, e0_2, h⟩ := andThen2_eq h
  obtain ⟨x0_2, ex0_2, h⟩ := andThen_eq h
  obtain ⟨c0_3, q0_3, e0_3, h⟩ := andThen2_eq h
  obtain ⟨x0_3, ex0_3, h⟩ := andThen_eq h
  obtain ⟨c0_4, q0_4, e0_4, h⟩ := andThen2_eq h
  obtain ⟨x0_4, ex0_4, h⟩ := andThen_eq h
  obtain ⟨c0_5, q0_5, e0_5, h⟩ := andThen2_eq h
  obtain ⟨x0_5, ex0_5, h⟩ := andThen_eq h
  obtain ⟨c0_6, q0_6, e0_6, h⟩ := andThen2_eq h
  obtain ⟨x0_6, ex0_6, h⟩ := andThen_eq h
  obtain ⟨_, en0, h⟩ := andThen_eq h
  cases h
  obtain rfl := gNil_eq en
  obtain rfl := gNil_eq en0
  obtain rfl := gCons_eq e0_6
  obtain rfl := gI_eq ex0_6
  obtain rfl := gCons_eq e0_5
  obtain rfl := gI_eq ex0_5
  obtain rfl := gCons_eq e0_4
  obtain rfl := gI_eq ex0_4
  obtain rfl := gCons_eq e0_3
  obtain rfl := gI_eq ex0_3
  obtain rfl := gCons_eq e0_2
  obtain rfl := gI_eq ex0_2
  obtain rfl := gCons_eq e0_1
  obtain rfl := gI_eq ex0_1
  obtain rfl := gCons_eq e0_0
  obtain rfl := gI_eq ex0_0
  obtain rfl := asA_eq ea0
  obtain rfl := gCons_eq e0
  refine ⟨rfl, .cons (VA.bareA (by rfl)) (.nil), .bare rfl, fun L => ⟨.done, ?_⟩⟩
  refine of_eq (b := (fun R : Value → Prop => R (Value.bool !leQ (wrapQ IntKind.i64 (Int.add (wrapQ IntKind.i64 (Int.add (wrapQ IntKind.i64 (Int.add x0_0 x0_1)) x0_2)) x0_3)) (Int.ofNat 0))) (fun v => v = v28 x0_0 x0_1 x0_2 x0_3 x0_4 x0_5 x0_6)) (by kernel_rfl) ?_
  rfl
noncomputable def r27_0 (x0_0 : Int) (x0_1 : Int) (x0_2 : Int) (x0_3 : Int) (x0_4 : Int) (x0_5 : Int) (x0_6 : Int) (x1_0 : Int) (x1_1 : Int) (x1_2 : Int) (x1_3 : Int) (x1_4 : Int) (x2_0 : Int) (x2_1 : Int) : Int := iff (eqQ x2_0 (Int.ofNat 4)) (iff (eqQ x2_1 (Int.ofNat 6)) (wrapQ IntKind.i64 (Int.add (wrapQ IntKind.i64 (Int.add x1_3 x0_2)) (Int.ofNat 1))) (wrapQ IntKind.i64 (Int.add x1_3 x0_2))) (wrapQ IntKind.i64 (Int.add x1_3 x0_2))
noncomputable def v27 (x0_0 : Int) (x0_1 : Int) (x0_2 : Int) (x0_3 : Int) (x0_4 : Int) (x0_5 : Int) (x0_6 : Int) (x1_0 : Int) (x1_1 : Int) (x1_2 : Int) (x1_3 : Int) (x1_4 : Int) (x2_0 : Int) (x2_1 : Int) : Value := Value.agg (Array.mk [Value.int IntKind.i64 (wrapQ IntKind.i64 (Int.add x1_0 x0_0)), Value.int IntKind.i64 (wrapQ IntKind.i64 (Int.add x1_1 (wrapQ IntKind.i64 (Int.mul x0_6 x2_1)))), Value.int IntKind.i64 (wrapQ IntKind.i64 (Int.add x1_2 x0_1)), Value.int IntKind.i64 (r27_0 x0_0 x0_1 x0_2 x0_3 x0_4 x0_5 x0_6 x1_0 x1_1 x1_2 x1_3 x1_4 x2_0 x2_1), Value.int IntKind.i64 (wrapQ IntKind.i64 (Int.add x1_4 x0_3))])
noncomputable def s27 : SpecF := fun args σ => andThen2 (gCons args) fun a0 q0 => andThen2 (gCons q0) fun a1 q1 => andThen2 (gCons q1) fun a2 q2 => andThen (gNil q2) fun _ => andThen (asA a0) fun l0 => andThen2 (gCons l0) fun c0_0 q0_0 => andThen (gI IntKind.i64 c0_0) fun x0_0 => andThen2 (gCons q0_0) fun c0_1 q0_1 => andThen (gI IntKind.i64 c0_1) fun x0_1 => andThen2 (gCons q0_1) fun c0_2 q0_2 => andThen (gI IntKind.i64 c0_2) fun x0_2 => andThen2 (gCons q0_2) fun c0_3 q0_3 => andThen (gI IntKind.i64 c0_3) fun x0_3 => andThen2 (gCons q0_3) fun c0_4 q0_4 => andThen (gI IntKind.i64 c0_4) fun x0_4 => andThen2 (gCons q0_4) fun c0_5 q0_5 => andThen (gI IntKind.i64 c0_5) fun x0_5 => andThen2 (gCons q0_5) fun c0_6 q0_6 => andThen (gI IntKind.i64 c0_6) fun x0_6 => andThen (gNil q0_6) fun _ => andThen (asA a1) fun l1 => andThen2 (gCons l1) fun c1_0 q1_0 => andThen (gI IntKind.i64 c1_0) fun x1_0 => andThen2 (gCons q1_0) fun c1_1 q1_1 => andThen (gI IntKind.i64 c1_1) fun x1_1 => andThen2 (gCons q1_1) fun c1_2 q1_2 => andThen (gI IntKind.i64 c1_2) fun x1_2 => andThen2 (gCons q1_2) fun c1_3 q1_3 => andThen (gI IntKind.i64 c1_3) fun x1_3 => andThen2 (gCons q1_3) fun c1_4 q1_4 => andThen (gI IntKind.i64 c1_4) fun x1_4 => andThen (gNil q1_4) fun _ => andThen (asA a2) fun l2 => andThen2 (gCons l2) fun c2_0 q2_0 => andThen (gI IntKind.u8 c2_0) fun x2_0 => andThen2 (gCons q2_0) fun c2_1 q2_1 => andThen (gI IntKind.i64 c2_1) fun x2_1 => andThen (gNil q2_1) fun _ => some (v27 x0_0 x0_1 x0_2 x0_3 x0_4 x0_5 x0_6 x1_0 x1_1 x1_2 x1_3 x1_4 x2_0 x2_1, σ)
theorem s27_sim : SpecSim Tryd.prog noG 27 s27 := by
  refine plain_of (call := callL []) ⟨[], []⟩ mix Tb.tys (callL_ok (fun p hp => by cases hp)) Tryd.func27 (by kernel_rfl) (by kernel_rfl) fun args σ v σ' h => ?_
  obtain ⟨a0, q0, e0, h⟩ := andThen2_eq h
  obtain ⟨a1, q1, e1, h⟩ := andThen2_eq h
  obtain ⟨a2, q2, e2, h⟩ := andThen2_eq h
  obtain ⟨_, en, h⟩ := andThen_eq h
  obtain ⟨l0, ea0, h⟩ := andThen_eq h
  obtain ⟨c0_0, q0_0, e0_0, h⟩ := andThen2_eq h
  obtain ⟨x0_0, ex0_0, h⟩ := andThen_eq h
  obtain ⟨c0_1, q0_1, e0_1, h⟩ := andThen2_eq h
  obtain ⟨x0_1, ex0_1, h⟩ := andThen_eq h
  obtain ⟨c0_2, q0_2, e0_2, h⟩ := andThen2_eq h
  obtain ⟨x0_2, ex0_2, h⟩ := andThen_eq h
  obtain ⟨c0_3, q0_3, e0_3, h⟩ := andThen2_eq h
  obtain ⟨x0_3, ex0_3, h⟩ := andThen_eq h
  obtain ⟨c0_4, q0_4, e0_4, h⟩ := andThen2_eq h
  obtain ⟨x0_4, ex0_4, h⟩ := andThen_eq h
  obtain ⟨c0_5, q0_5, e0_5, h⟩ := andThen2_eq h
  obtain ⟨x0_5, ex0_5, h⟩ := andThen_eq h
  obtain ⟨c0_6, q0_6, e0_6, h⟩ := andThen2_eq h
  obtain ⟨x0_6, ex0_6, h⟩ := andThen_eq h
  obtain ⟨_, en0, h⟩ := andThen_eq h
  obtain ⟨l1, ea1, h⟩ := andThen_eq h
  obtain ⟨c1_0, q1_0, e1_0, h⟩ := andThen2_eq h
  obtain ⟨x1_0, ex1_0, h⟩ := andThen_eq h
  obtain ⟨c1_1, q1_1, e1_1, h⟩ := andThen2_eq h
  obtain ⟨x1_1, ex1_1, h⟩ := andThen_eq h
  obtain ⟨c1_2, q1_2, e1_2, h⟩ := andThen2_eq h
  obtain ⟨x1_2, ex1_2, h⟩ := andThen_eq h
  obtain ⟨c1_3, q1_3, e1_3, h⟩ := andThen2_eq h
  obtain ⟨x1_3, ex1_3, h⟩ := andThen_eq h
  obtain ⟨c1_4, q1_4, e1_4, h⟩ := andThen2_eq h
  obtain ⟨x1_4, ex1_4, h⟩ := andThen_eq h
  obtain ⟨_, en1, h⟩ := andThen_eq h
  obtain ⟨l2, ea2, h⟩ := andThen_eq h
  obtain ⟨c2_0, q2_0, e2_0, h⟩ := andThen2_eq h
  obtain ⟨x2_0, ex2_0, h⟩ := andThen_eq h
  obtain ⟨c2_1, q2_1, e2_1, h⟩ := andThen2_eq h
  obtain ⟨x2_1, ex2_1, h⟩ := andThen_eq h
  obtain ⟨_, en2, h⟩ := andThen_eq h
  cases h
  obtain rfl := gNil_eq en
  obtain rfl := gNil_eq en0
  obtain rfl := gCons_eq e0_6
  obtain rfl := gI_eq ex0_6
  obtain rfl := gCons_eq e0_5
  obtain rfl := gI_eq ex0_5
  obtain rfl := gCons_eq e0_4
  obtain rfl := gI_eq ex0_4
  obtain rfl := gCons_eq e0_3
  obtain rfl := gI_eq ex0_3
  obtain rfl := gCons_eq e0_2
  obtain rfl := gI_eq ex0_2
  obtain rfl := gCons_eq e0_1
  obtain rfl := gI_eq ex0_1
  obtain rfl := gCons_eq e0_0
  obtain rfl := gI_eq ex0_0
  obtain rfl := asA_eq ea0
  obtain rfl := gNil_eq en1
  obtain rfl := gCons_eq e1_4
  obtain rfl := gI_eq ex1_4
  obtain rfl := gCons_eq e1_3
  obtain rfl := gI_eq ex1_3
  obtain rfl := gCons_eq e1_2
  obtain rfl := gI_eq ex1_2
  obtain rfl := gCons_eq e1_1
  obtain rfl := gI_eq ex1_1
  obtain rfl := gCons_eq e1_0
  obtain rfl := gI_eq ex1_0
  obtain rfl := asA_eq ea1
  obtain rfl := gNil_eq en2
  obtain rfl := gCons_eq e2_1
  obtain rfl := gI_eq ex2_1
  obtain rfl := gCons_eq e2_0
  obtain rfl := gI_eq ex2_0
  obtain rfl := asA_eq ea2
  obtain rfl := gCons_eq e2
  obtain rfl := gCons_eq e1
  obtain rfl := gCons_eq e0
  refine ⟨rfl, .cons (VA.bareA (by rfl)) (.cons (VA.bareA (by rfl)) (.cons (VA.bareA (by rfl)) (.nil))), VA.bareR (by rfl), fun L => ⟨(.split (.lit (.lit (.split .done .done))) (.lit (.lit (.lit .done)))), ?_⟩⟩
  refine of_eq (b := (fun R : Value → Prop => (eqQ x2_0 (Int.ofNat 4) = true → (eqQ x2_1 (Int.ofNat 6) = true → R (Value.agg (Array.mk [Value.int IntKind.i64 (wrapQ IntKind.i64 (Int.add x1_0 x0_0)), Value.int IntKind.i64 (wrapQ IntKind.i64 (Int.add x1_1 (wrapQ IntKind.i64 (Int.mul x0_6 x2_1)))), Value.int IntKind.i64 (wrapQ IntKind.i64 (Int.add x1_2 x0_1)), Value.int IntKind.i64 (wrapQ IntKind.i64 (Int.add (wrapQ IntKind.i64 (Int.add x1_3 x0_2)) (Int.ofNat 1))), Value.int IntKind.i64 (wrapQ IntKind.i64 (Int.add x1_4 x0_3))]))) ∧ (eqQ x2_1 (Int.ofNat 6) = false → R (Value.agg (Array.mk [Value.int IntKind.i64 (wrapQ IntKind.i64 (Int.add x1_0 x0_0)), Value.int IntKind.i64 (wrapQ IntKind.i64 (Int.add x1_1 (wrapQ IntKind.i64 (Int.mul x0_6 x2_1)))), Value.int IntKind.i64 (wrapQ IntKind.i64 (Int.add x1_2 x0_1)), Value.int IntKind.i64 (wrapQ IntKind.i64 (Int.add x1_3 x0_2)), Value.int IntKind.i64 (wrapQ IntKind.i64 (Int.add x1_4 x0_3))])))) ∧ (eqQ x2_0 (Int.ofNat 4) = false → R (Value.agg (Array.mk [Value.int IntKind.i64 (wrapQ IntKind.i64 (Int.add x1_0 x0_0)), Value.int IntKind.i64 (wrapQ IntKind.i64 (Int.add x1_1 (wrapQ IntKind.i64 (Int.mul x0_6 x2_1)))), Value.int IntKind.i64 (wrapQ IntKind.i64 (Int.add x1_2 x0_1)), Value.int IntKind.i64 (wrapQ IntKind.i64 (Int.add x1_3 x0_2)), Value.int IntKind.i64 (wrapQ IntKind.i64 (Int.add x1_4 x0_3))])))) (fun v => v = v27 x0_0 x0_1 x0_2 x0_3 x0_4 x0_5 x0_6 x1_0 x1_1 x1_2 x1_3 x1_4 x2_0 x2_1)) (by kernel_rfl) ?_
  dsimp only
  repeat' (first | apply And.intro | intro)
  all_goals simp only [v27, r27_0, *, Abs.iff_true, Abs.iff_false]
noncomputable def v23  : Value := Value.agg (Array.mk [Value.int IntKind.i64 (Int.ofNat 2), Value.int IntKind.i64 (Int.ofNat 100), Value.int IntKind.i64 (Int.ofNat 2), Value.int IntKind.i64 (Int.ofNat 2), Value.int IntKind.i64 (Int.ofNat 1)])
noncomputable def s23 : SpecF := fun args σ => andThen (gNil args) fun _ => some (v23 , σ)
theorem s23_sim : SpecSim Tryd.prog noG 23 s23 := by
  refine plain_of (call := callL []) ⟨[], []⟩ mix Tb.tys (callL_ok (fun p hp => by cases hp)) Tryd.func23 (by kernel_rfl) (by kernel_rfl) fun args σ v σ' h => ?_
  obtain ⟨_, en, h⟩ := andThen_eq h
  cases h
  obtain rfl := gNil_eq en
  refine ⟨rfl, .nil, VA.bareR (by rfl), fun L => ⟨.done, ?_⟩⟩
  refine of_eq (b := (fun R : Value → Prop => R (Value.agg (Array.mk [Value.int IntKind.i64 (Int.ofNat 2), Value.int IntKind.i64 (Int.ofNat 100), Value.int IntKind.i64 (Int.ofNat 2), Value.int IntKind.i64 (Int.ofNat 2), Value.int IntKind.i64 (Int.ofNat 1)]))) (fun v => v = v23 )) (by kernel_rfl) ?_
  rfl
noncomputable def r22_0 (x0_0 : Int) (x0_1 : Int) (x0_2 : Int) (x0_3 : Int) (x0_4 : Int) (x0_5 : Int) (x0_6 : Int) (x0_7 : Int) (x0_8 : Int) : Bool := iff (r24_0 x0_0 (Int.ofNat 3)) (iff (r24_0 x0_1 (Int.ofNat 4)) (iff (r24_0 x0_2 (Int.ofNat 40)) (iff (r24_0 x0_3 (Int.ofNat 8)) (iff (r24_0 x0_4 (Int.ofNat 8)) (iff (r24_0 x0_5 (Int.ofNat 8)) (iff (r24_0 x0_6 (Int.ofNat 4)) (iff (r24_0 x0_7 (Int.ofNat 4)) (r24_0 x0_8 (Int.ofNat 8)) false) false) false) false) false) false) false) false
noncomputable def v22 (x0_0 : Int) (x0_1 : Int) (x0_2 : Int) (x0_3 : Int) (x0_4 : Int) (x0_5 : Int) (x0_6 : Int) (x0_7 : Int) (x0_8 : Int) : Value := Value.bool (r22_0 x0_0 x0_1 x0_2 x0_3 x0_4 x0_5 x0_6 x0_7 x0_8)
noncomputable def s22 : SpecF := fun args σ => andThen2 (gCons args) fun a0 q0 => andThen (gNil q0) fun _ => andThen (asA a0) fun l0 => andThen2 (gCons l0) fun c0_0 q0_0 => andThen (gI IntKind.i64 c0_0) fun x0_0 => andThen2 (gCons q0_0) fun c0_1 q0_1 => andThen (gI IntKind.i64 c0_1) fun x0_1 => andThen2 (gCons q0_1) fun c0_2 q0_2 => andThen (gI IntKind.i64 c0_2) fun x0_2 => andThen2 (gCons q0_2) fun c0_3 q0_3 => andThen (gI IntKind.i64 c0_3) fun x0_3 => andThen2 (gCons q0_3) fun c0_4 q0_4 => andThen (gI IntKind.i64 c0_4) fun x0_4 => andThen2 (gCons q0_4) fun c0_5 q0_5 => andThen (gI IntKind.i64 c0_5) fun x0_5 => andThen2 (gCons q0_5) fun c0_6 q0_6 => andThen (gI IntKind.i64 c0_6) fun x0_6 => andThen2 (gCons q0_6) fun c0_7 q0_7 => andThen (gI IntKind.i64 c0_7) fun x0_7 => andThen2 (gCons q0_7) fun c0_8 q0_8 => andThen (gI IntKind.i64 c0_8) fun x0_8 => andThen (gNil q0_8) fun _ => some (v22 x0_0 x0_1 x0_2 x0_3 x0_4 x0_5 x0_6 x0_7 x0_8, σ)
theorem s22_sim : SpecSim Tryd.prog noG 22 s22 := by
  refine plain_of (call := callL [(24, s24)]) ⟨[], []⟩ mix Tb.tys (callL_ok (fun p hp => by
    simp only [List.mem_cons, List.not_mem_nil, or_false] at hp
    rcases hp with rfl
    · exact s24_sim)) Tryd.func22 (by kernel_rfl) (by kernel_rfl) fun args σ v σ' h => ?_
  obtain ⟨a0, q0, e0, h⟩ := andThen2_eq h
  obtain ⟨_, en, h⟩ := andThen_eq h
  obtain ⟨l0, ea0, h⟩ := andThen_eq h
  obtain ⟨c0_0, q0_0, e0_0, h⟩ := andThen2_eq h
  obtain ⟨x0_0, ex0_0, h⟩ := andThen_eq h
  obtain ⟨c0_1, q0_1, e0_1, h⟩ := andThen2_eq h
  obtain ⟨x0_1, ex0_1, h⟩ := andThen_eq h
  obtain ⟨c0_2, q0_2, e0_2, h⟩ := andThen2_eq h
  obtain ⟨x0_2, ex0_2, h⟩ := andThen_eq h
  obtain ⟨c0_3, q0_3, e0_3, h⟩ := andThen2_eq h
  obtain ⟨x0_3, ex0_3, h⟩ := andThen_eq h
  obtain ⟨c0_4, q0_4, e0_4, h⟩ := andThen2_eq h
  obtain ⟨x0_4, ex0_4, h⟩ := andThen_eq h
  obtain ⟨c0_5, q0_5, e0_5, h⟩ := andThen2_eq h
  obtain ⟨x0_5, ex0_5, h⟩ := andThen_eq h
  obtain ⟨c0_6, q0_6, e0_6, h⟩ := andThen2_eq h
  obtain ⟨x0_6, ex0_6, h⟩ := andThen_eq h
  obtain ⟨c0_7, q0_7, e0_7, h⟩ := andThen2_eq h
  obtain ⟨x0_7, ex0_7, h⟩ := andThen_eq h
  obtain ⟨c0_8, q0_8, e0_8, h⟩ := andThen2_eq h
  obtain ⟨x0_8, ex0_8, h⟩ := andThen_eq h
  obtain ⟨_, en0, h⟩ := andThen_eq h
  cases h
  obtain rfl := gNil_eq en
  obtain rfl := gNil_eq en0
  obtain rfl := gCons_eq e0_8
  obtain rfl := gI_eq ex0_8
  obtain rfl := gCons_eq e0_7
  obtain rfl := gI_eq ex0_7
  obtain rfl := gCons_eq e0_6
  obtain rfl := gI_eq ex0_6
  obtain rfl := gCons_eq e0_5
  obtain rfl := gI_eq ex0_5
  obtain rfl := gCons_eq e0_4
  obtain rfl := gI_eq ex0_4
  obtain rfl := gCons_eq e0_3
  obtain rfl := gI_eq ex0_3
  obtain rfl := gCons_eq e0_2
  obtain rfl := gI_eq ex0_2
  obtain rfl := gCons_eq e0_1
  obtain rfl := gI_eq ex0_1
  obtain rfl := gCons_eq e0_0
  obtain rfl := gI_eq ex0_0
  obtain rfl := asA_eq ea0
  obtain rfl := gCons_eq e0
  refine ⟨rfl, .cons (VA.bareA (by rfl)) (.nil), .bare rfl, fun L => ⟨(.split (.lit (.lit (.split (.lit (.lit (.split (.lit (.lit (.split (.lit (.lit (.split (.lit (.lit (.split (.lit (.lit (.split (.lit (.lit (.split (.lit (.lit .done)) (.lit (.lit .done))))) (.lit (.lit (.lit (.lit (.lit .done)))))))) (.lit (.lit (.lit (.lit (.lit (.lit (.lit (.lit .done))))))))))) (.lit (.lit (.lit (.lit (.lit (.lit (.lit (.lit (.lit (.lit (.lit .done)))))))))))))) (.lit (.lit (.lit (.lit (.lit (.lit (.lit (.lit (.lit (.lit (.lit (.lit (.lit (.lit .done))))))))))))))))) (.lit (.lit (.lit (.lit (.lit (.lit (.lit (.lit (.lit (.lit (.lit (.lit (.lit (.lit (.lit (.lit (.lit .done)))))))))))))))))))) (.lit (.lit (.lit (.lit (.lit (.lit (.lit (.lit (.lit (.lit (.lit (.lit (.lit (.lit (.lit (.lit (.lit (.lit (.lit (.lit .done))))))))))))))))))))))) (.lit (.lit (.lit (.lit (.lit (.lit (.lit (.lit (.lit (.lit (.lit (.lit (.lit (.lit (.lit (.lit (.lit (.lit (.lit (.lit (.lit (.lit (.lit .done)))))))))))))))))))))))), ?_⟩⟩
  refine of_eq (b := (fun R : Value → Prop => (r24_0 x0_0 (Int.ofNat 3) = true → (r24_0 x0_1 (Int.ofNat 4) = true → (r24_0 x0_2 (Int.ofNat 40) = true → (r24_0 x0_3 (Int.ofNat 8) = true → (r24_0 x0_4 (Int.ofNat 8) = true → (r24_0 x0_5 (Int.ofNat 8) = true → (r24_0 x0_6 (Int.ofNat 4) = true → (r24_0 x0_7 (Int.ofNat 4) = true → R (Value.bool (r24_0 x0_8 (Int.ofNat 8)))) ∧ (r24_0 x0_7 (Int.ofNat 4) = false → R (Value.bool false))) ∧ (r24_0 x0_6 (Int.ofNat 4) = false → R (Value.bool false))) ∧ (r24_0 x0_5 (Int.ofNat 8) = false → R (Value.bool false))) ∧ (r24_0 x0_4 (Int.ofNat 8) = false → R (Value.bool false))) ∧ (r24_0 x0_3 (Int.ofNat 8) = false → R (Value.bool false))) ∧ (r24_0 x0_2 (Int.ofNat 40) = false → R (Value.bool false))) ∧ (r24_0 x0_1 (Int.ofNat 4) = false → R (Value.bool false))) ∧ (r24_0 x0_0 (Int.ofNat 3) = false → R (Value.bool false))) (fun v => v = v22 x0_0 x0_1 x0_2 x0_3 x0_4 x0_5 x0_6 x0_7 x0_8)) (by kernel_rfl) ?_
  dsimp only
  repeat' (first | apply And.intro | intro)
  all_goals simp only [v22, r22_0, *, Abs.iff_true, Abs.iff_false]
noncomputable def r17_0 (x0_0 : Int) (x0_1 : Int) (x0_2 : Int) (x0_3 : Int) (x0_4 : Int) (x1_0 : Int) (x1_1 : Int) (x1_2 : Int) (x1_3 : Int) (x1_4 : Int) : Int := iff (!eqQ (r13_0 x0_0 x0_1 x0_2 x0_3 x0_4 x1_0 x1_1 x1_2 x1_3 x1_4) (Int.ofNat 0)) (Int.ofNat 0) (wrapQ IntKind.i64 (Int.sub (iff (leQ x0_2 (wrapQ IntKind.i64 (Int.sub x0_3 x1_3))) x0_2 (wrapQ IntKind.i64 (Int.sub x0_3 x1_3))) x1_2))
noncomputable def r17_1 (x0_0 : Int) (x0_1 : Int) (x0_2 : Int) (x0_3 : Int) (x0_4 : Int) (x1_0 : Int) (x1_1 : Int) (x1_2 : Int) (x1_3 : Int) (x1_4 : Int) : Int := iff (!eqQ (r13_0 x0_0 x0_1 x0_2 x0_3 x0_4 x1_0 x1_1 x1_2 x1_3 x1_4) (Int.ofNat 0)) (r13_0 x0_0 x0_1 x0_2 x0_3 x0_4 x1_0 x1_1 x1_2 x1_3 x1_4) (Int.ofNat 0)
noncomputable def v17 (x0_0 : Int) (x0_1 : Int) (x0_2 : Int) (x0_3 : Int) (x0_4 : Int) (x1_0 : Int) (x1_1 : Int) (x1_2 : Int) (x1_3 : Int) (x1_4 : Int) : Value := Value.tuple (Array.mk [Value.int IntKind.i64 (r17_0 x0_0 x0_1 x0_2 x0_3 x0_4 x1_0 x1_1 x1_2 x1_3 x1_4), Value.int IntKind.i64 (r17_1 x0_0 x0_1 x0_2 x0_3 x0_4 x1_0 x1_1 x1_2 x1_3 x1_4)])
noncomputable def s17 : SpecF := fun args σ => andThen2 (gCons args) fun a0 q0 => andThen2 (gCons q0) fun a1 q1 => andThen (gNil q1) fun _ => andThen (asA a0) fun l0 => andThen2 (gCons l0) fun c0_0 q0_0 => andThen (gI IntKind.i64 c0_0) fun x0_0 => andThen2 (gCons q0_0) fun c0_1 q0_1 => andThen (gI IntKind.i64 c0_1) fun x0_1 => andThen2 (gCons q0_1) fun c0_2 q0_2 => andThen (gI IntKind.i64 c0_2) fun x0_2 => andThen2 (gCons q0_2) fun c0_3 q0_3 => andThen (gI IntKind.i64 c0_3) fun x0_3 => andThen2 (gCons q0_3) fun c0_4 q0_4 => andThen (gI IntKind.i64 c0_4) fun x0_4 => andThen (gNil q0_4) fun _ => andThen (asA a1) fun l1 => andThen2 (gCons l1) fun c1_0 q1_0 => andThen (gI IntKind.i64 c1_0) fun x1_0 => andThen2 (gCons q1_0) fun c1_1 q1_1 => andThen (gI IntKind.i64 c1_1) fun x1_1 => andThen2 (gCons q1_1) fun c1_2 q1_2 => andThen (gI IntKind.i64 c1_2) fun x1_2 => andThen2 (gCons q1_2) fun c1_3 q1_3 => andThen (gI IntKind.i64 c1_3) fun x1_3 => andThen2 (gCons q1_3) fun c1_4 q1_4 => andThen (gI IntKind.i64 c1_4) fun x1_4 => andThen (gNil q1_4) fun _ => some (v17 x0_0 x0_1 x0_2 x0_3 x0_4 x1_0 x1_1 x1_2 x1_3 x1_4, σ)
theorem s17_sim : SpecSim Tryd.prog noG 17 s17 := by
  refine plain_of (call := callL [(13, s13)]) ⟨[], []⟩ mix Tb.tys (callL_ok (fun p hp => by
    simp only [List.mem_cons, List.not_mem_nil, or_false] at hp
    rcases hp with rfl
    · exact s13_sim)) Tryd.func17 (by kernel_rfl) (by kernel_rfl) fun args σ v σ' h => ?_
  obtain ⟨a0, q0, e0, h⟩ := andThen2_eq h
  obtain ⟨a1, q1, e1, h⟩ := andThen2_eq h
  obtain ⟨_, en, h⟩ := andThen_eq h
  obtain ⟨l0, ea0, h⟩ := andThen_eq h
  obtain ⟨c0_0, q0_0, e0_0, h⟩ := andThen2_eq h
  obtain ⟨x0_0, ex0_0, h⟩ := andThen_eq h
  obtain ⟨c0_1, q0_1, e0_1, h⟩ := andThen2_eq h
  obtain ⟨x0_1, ex0_1, h⟩ := andThen_eq h
  obtain ⟨c0_2, q0_2, e0_2, h⟩ := andThen2_eq h
  obtain ⟨x0_2, ex0_2, h⟩ := andThen_eq h
  obtain ⟨c0_3, q0_3, e0_3, h⟩ := andThen2_eq h
  obtain ⟨x0_3, ex0_3, h⟩ := andThen_eq h
  obtain ⟨c0_4, q0_4, e0_4, h⟩ := andThen2_eq h
  obtain ⟨x0_4, ex0_4, h⟩ := andThen_eq h
  obtain ⟨_, en0, h⟩ := andThen_eq h
  obtain ⟨l1, ea1, h⟩ := andThen_eq h
  obtain ⟨c1_0, q1_0, e1_0, h⟩ := andThen2_eq h
  obtain ⟨x1_0, ex1_0, h⟩ := andThen_eq h
  obtain ⟨c1_1, q1_1, e1_1, h⟩ := andThen2_eq h
  obtain ⟨x1_1, ex1_1, h⟩ := andThen_eq h
  obtain ⟨c1_2, q1_2, e1_2, h⟩ := andThen2_eq h
  obtain ⟨x1_2, ex1_2, h⟩ := andThen_eq h
  obtain ⟨c1_3, q1_3, e1_3, h⟩ := andThen2_eq h
  obtain ⟨x1_3, ex1_3, h⟩ := andThen_eq h
  obtain ⟨c1_4, q1_4, e1_4, h⟩ := andThen2_eq h
  obtain ⟨x1_4, ex1_4, h⟩ := andThen_eq h
  obtain ⟨_, en1, h⟩ := andThen_eq h
  cases h
  obtain rfl := gNil_eq en
  obtain rfl := gNil_eq en0
  obtain rfl := gCons_eq e0_4
  obtain rfl := gI_eq ex0_4
  obtain rfl := gCons_eq e0_3
  obtain rfl := gI_eq ex0_3
  obtain rfl := gCons_eq e0_2
  obtain rfl := gI_eq ex0_2
  obtain rfl := gCons_eq e0_1
  obtain rfl := gI_eq ex0_1
  obtain rfl := gCons_eq e0_0
  obtain rfl := gI_eq ex0_0
  obtain rfl := asA_eq ea0
  obtain rfl := gNil_eq en1
  obtain rfl := gCons_eq e1_4
  obtain rfl := gI_eq ex1_4
  obtain rfl := gCons_eq e1_3
  obtain rfl := gI_eq ex1_3
  obtain rfl := gCons_eq e1_2
  obtain rfl := gI_eq ex1_2
  obtain rfl := gCons_eq e1_1
  obtain rfl := gI_eq ex1_1
  obtain rfl := gCons_eq e1_0
  obtain rfl := gI_eq ex1_0
  obtain rfl := asA_eq ea1
  obtain rfl := gCons_eq e1
  obtain rfl := gCons_eq e0
  refine ⟨rfl, .cons (VA.bareA (by rfl)) (.cons (VA.bareA (by rfl)) (.nil)), VA.bareR (by rfl), fun L => ⟨(.split .done .done), ?_⟩⟩
  refine of_eq (b := (fun R : Value → Prop => ((!eqQ (r13_0 x0_0 x0_1 x0_2 x0_3 x0_4 x1_0 x1_1 x1_2 x1_3 x1_4) (Int.ofNat 0)) = true → R (Value.tuple (Array.mk [Value.int IntKind.i64 (Int.ofNat 0), Value.int IntKind.i64 (r13_0 x0_0 x0_1 x0_2 x0_3 x0_4 x1_0 x1_1 x1_2 x1_3 x1_4)]))) ∧ ((!eqQ (r13_0 x0_0 x0_1 x0_2 x0_3 x0_4 x1_0 x1_1 x1_2 x1_3 x1_4) (Int.ofNat 0)) = false → R (Value.tuple (Array.mk [Value.int IntKind.i64 (wrapQ IntKind.i64 (Int.sub (iff (leQ x0_2 (wrapQ IntKind.i64 (Int.sub x0_3 x1_3))) x0_2 (wrapQ IntKind.i64 (Int.sub x0_3 x1_3))) x1_2)), Value.int IntKind.i64 (Int.ofNat 0)])))) (fun v => v = v17 x0_0 x0_1 x0_2 x0_3 x0_4 x1_0 x1_1 x1_2 x1_3 x1_4)) (by kernel_rfl) ?_
  dsimp only
  repeat' (first | apply And.intro | intro)
  all_goals simp only [v17, r17_0, r17_1, *, Abs.iff_true, Abs.iff_false]
noncomputable def r18_0 (x0_0 : Int) (x0_1 : Int) (x0_2 : Int) (x0_3 : Int) (x0_4 : Int) (x1_0 : Int) (x1_1 : Int) (x1_2 : Int) (x1_3 : Int) (x1_4 : Int) : Int := iff (!eqQ (r14_0 x0_0 x0_1 x0_2 x0_3 x0_4 x1_0 x1_1 x1_2 x1_3 x1_4) (Int.ofNat 0)) (Int.ofNat 0) (iff (leQ (wrapQ IntKind.i64 (Int.sub x0_2 x1_2)) (wrapQ IntKind.i64 (Int.sub (wrapQ IntKind.i64 (Int.sub x0_3 x1_2)) x1_3))) (wrapQ IntKind.i64 (Int.sub x0_2 x1_2)) (wrapQ IntKind.i64 (Int.sub (wrapQ IntKind.i64 (Int.sub x0_3 x1_2)) x1_3)))
noncomputable def r18_1 (x0_0 : Int) (x0_1 : Int) (x0_2 : Int) (x0_3 : Int) (x0_4 : Int) (x1_0 : Int) (x1_1 : Int) (x1_2 : Int) (x1_3 : Int) (x1_4 : Int) : Int := iff (!eqQ (r14_0 x0_0 x0_1 x0_2 x0_3 x0_4 x1_0 x1_1 x1_2 x1_3 x1_4) (Int.ofNat 0)) (r14_0 x0_0 x0_1 x0_2 x0_3 x0_4 x1_0 x1_1 x1_2 x1_3 x1_4) (Int.ofNat 0)
noncomputable def v18 (x0_0 : Int) (x0_1 : Int) (x0_2 : Int) (x0_3 : Int) (x0_4 : Int) (x1_0 : Int) (x1_1 : Int) (x1_2 : Int) (x1_3 : Int) (x1_4 : Int) : Value := Value.tuple (Array.mk [Value.int IntKind.i64 (r18_0 x0_0 x0_1 x0_2 x0_3 x0_4 x1_0 x1_1 x1_2 x1_3 x1_4), Value.int IntKind.i64 (r18_1 x0_0 x0_1 x0_2 x0_3 x0_4 x1_0 x1_1 x1_2 x1_3 x1_4)])
noncomputable def s18 : SpecF := fun args σ => andThen2 (gCons args) fun a0 q0 => andThen2 (gCons q0) fun a1 q1 => andThen (gNil q1) fun _ => andThen (asA a0) fun l0 => andThen2 (gCons l0) fun c0_0 q0_0 => andThen (gI IntKind.i64 c0_0) fun x0_0 => andThen2 (gCons q0_0) fun c0_1 q0_1 => andThen (gI IntKind.i64 c0_1) fun x0_1 => andThen2 (gCons q0_1) fun c0_2 q0_2 => andThen (gI IntKind.i64 c0_2) fun x0_2 => andThen2 (gCons q0_2) fun c0_3 q0_3 => andThen (gI IntKind.i64 c0_3) fun x0_3 => andThen2 (gCons q0_3) fun c0_4 q0_4 => andThen (gI IntKind.i64 c0_4) fun x0_4 => andThen (gNil q0_4) fun _ => andThen (asA a1) fun l1 => andThen2 (gCons l1) fun c1_0 q1_0 => andThen (gI IntKind.i64 c1_0) fun x1_0 => andThen2 (gCons q1_0) fun c1_1 q1_1 => andThen (gI IntKind.i64 c1_1) fun x1_1 => andThen2 (gCons q1_1) fun c1_2 q1_2 => andThen (gI IntKind.i64 c1_2) fun x1_2 => andThen2 (gCons q1_2) fun c1_3 q1_3 => andThen (gI IntKind.i64 c1_3) fun x1_3 => andThen2 (gCons q1_3) fun c1_4 q1_4 => andThen (gI IntKind.i64 c1_4) fun x1_4 => andThen (gNil q1_4) fun _ => some (v18 x0_0 x0_1 x0_2 x0_3 x0_4 x1_0 x1_1 x1_2 x1_3 x1_4, σ)
theorem s18_sim : SpecSim Tryd.prog noG 18 s18 := by
  refine plain_of (call := callL [(14, s14)]) ⟨[], []⟩ mix Tb.tys (callL_ok (fun p hp => by
    simp only [List.mem_cons, List.not_mem_nil, or_false] at hp
    rcases hp with rfl
    · exact s14_sim)) Tryd.func18 (by kernel_rfl) (by kernel_rfl) fun args σ v σ' h => ?_
  obtain ⟨a0, q0, e0, h⟩ := andThen2_eq h
  obtain ⟨a1, q1, e1, h⟩ := andThen2_eq h
  obtain ⟨_, en, h⟩ := andThen_eq h
  obtain ⟨l0, ea0, h⟩ := andThen_eq h
  obtain ⟨c0_0, q0_0, e0_0, h⟩ := andThen2_eq h
  obtain ⟨x0_0, ex0_0, h⟩ := andThen_eq h
  obtain ⟨c0_1, q0_1, e0_1, h⟩ := andThen2_eq h
  obtain ⟨x0_1, ex0_1, h⟩ := andThen_eq h
  obtain ⟨c0_2, q0_2, e0_2, h⟩ := andThen2_eq h
  obtain ⟨x0_2, ex0_2, h⟩ := andThen_eq h
  obtain ⟨c0_3, q0_3, e0_3, h⟩ := andThen2_eq h
  obtain ⟨x0_3, ex0_3, h⟩ := andThen_eq h
  obtain ⟨c0_4, q0_4, e0_4, h⟩ := andThen2_eq h
  obtain ⟨x0_4, ex0_4, h⟩ := andThen_eq h
  obtain ⟨_, en0, h⟩ := andThen_eq h
  obtain ⟨l1, ea1, h⟩ := andThen_eq h
  obtain ⟨c1_0, q1_0, e1_0, h⟩ := andThen2_eq h
  obtain ⟨x1_0, ex1_0, h⟩ := andThen_eq h
  obtain ⟨c1_1, q1_1, e1_1, h⟩ := andThen2_eq h
  obtain ⟨x1_1, ex1_1, h⟩ := andThen_eq h
  obtain ⟨c1_2, q1_2, e1_2, h⟩ := andThen2_eq h
  obtain ⟨x1_2, ex1_2, h⟩ := andThen_eq h
  obtain ⟨c1_3, q1_3, e1_3, h⟩ := andThen2_eq h
  obtain ⟨x1_3, ex1_3, h⟩ := andThen_eq h
  obtain ⟨c1_4, q1_4, e1_4, h⟩ := andThen2_eq h
  obtain ⟨x1_4, ex1_4, h⟩ := andThen_eq h
  obtain ⟨_, en1, h⟩ := andThen_eq h
  cases h
  obtain rfl := gNil_eq en
  obtain rfl := gNil_eq en0
  obtain rfl := gCons_eq e0_4
  obtain rfl := gI_eq ex0_4
  obtain rfl := gCons_eq e0_3
  obtain rfl := gI_eq ex0_3
  obtain rfl := gCons_eq e0_2
  obtain rfl := gI_eq ex0_2
  obtain rfl := gCons_eq e0_1
  obtain rfl := gI_eq ex0_1
  obtain rfl := gCons_eq e0_0
  obtain rfl := gI_eq ex0_0
  obtain rfl := asA_eq ea0
  obtain rfl := gNil_eq en1
  obtain rfl := gCons_eq e1_4
  obtain rfl := gI_eq ex1_4
  obtain rfl := gCons_eq e1_3
  obtain rfl := gI_eq ex1_3
  obtain rfl := gCons_eq e1_2
  obtain rfl := gI_eq ex1_2
  obtain rfl := gCons_eq e1_1
  obtain rfl := gI_eq ex1_1
  obtain rfl := gCons_eq e1_0
  obtain rfl := gI_eq ex1_0
  obtain rfl := asA_eq ea1
  obtain rfl := gCons_eq e1
  obtain rfl := gCons_eq e0
  refine ⟨rfl, .cons (VA.bareA (by rfl)) (.cons (VA.bareA (by rfl)) (.nil)), VA.bareR (by rfl), fun L => ⟨(.split .done .done), ?_⟩⟩
  refine of_eq (b := (fun R : Value → Prop => ((!eqQ (r14_0 x0_0 x0_1 x0_2 x0_3 x0_4 x1_0 x1_1 x1_2 x1_3 x1_4) (Int.ofNat 0)) = true → R (Value.tuple (Array.mk [Value.int IntKind.i64 (Int.ofNat 0), Value.int IntKind.i64 (r14_0 x0_0 x0_1 x0_2 x0_3 x0_4 x1_0 x1_1 x1_2 x1_3 x1_4)]))) ∧ ((!eqQ (r14_0 x0_0 x0_1 x0_2 x0_3 x0_4 x1_0 x1_1 x1_2 x1_3 x1_4) (Int.ofNat 0)) = false → R (Value.tuple (Array.mk [Value.int IntKind.i64 (iff (leQ (wrapQ IntKind.i64 (Int.sub x0_2 x1_2)) (wrapQ IntKind.i64 (Int.sub (wrapQ IntKind.i64 (Int.sub x0_3 x1_2)) x1_3))) (wrapQ IntKind.i64 (Int.sub x0_2 x1_2)) (wrapQ IntKind.i64 (Int.sub (wrapQ IntKind.i64 (Int.sub x0_3 x1_2)) x1_3))), Value.int IntKind.i64 (Int.ofNat 0)])))) (fun v => v = v18 x0_0 x0_1 x0_2 x0_3 x0_4 x1_0 x1_1 x1_2 x1_3 x1_4)) (by kernel_rfl) ?_
  dsimp only
  repeat' (first | apply And.intro | intro)
  all_goals simp only [v18, r18_0, r18_1, *, Abs.iff_true, Abs.iff_false]
noncomputable def r21_0 (x0_0 : Int) (x0_1 : Int) (x0_2 : Int) (x0_3 : Int) (x0_4 : Int) (x0_5 : Int) (x0_6 : Int) (x0_7 : Int) (x0_8 : Int) : Int := iff (!r22_0 x0_0 x0_1 x0_2 x0_3 x0_4 x0_5 x0_6 x0_7 x0_8) (Int.ofNat 0) x0_5
noncomputable def r21_1 (x0_0 : Int) (x0_1 : Int) (x0_2 : Int) (x0_3 : Int) (x0_4 : Int) (x0_5 : Int) (x0_6 : Int) (x0_7 : Int) (x0_8 : Int) : Int := iff (!r22_0 x0_0 x0_1 x0_2 x0_3 x0_4 x0_5 x0_6 x0_7 x0_8) (Int.ofNat 0) (wrapQ IntKind.i64 (Int.mul (Int.ofNat 2000) x0_5))
noncomputable def r21_2 (x0_0 : Int) (x0_1 : Int) (x0_2 : Int) (x0_3 : Int) (x0_4 : Int) (x0_5 : Int) (x0_6 : Int) (x0_7 : Int) (x0_8 : Int) : Int := iff (!r22_0 x0_0 x0_1 x0_2 x0_3 x0_4 x0_5 x0_6 x0_7 x0_8) (Int.ofNat 0) (iff (leQ (wrapQ IntKind.i64 (Int.tdiv x0_4 x0_7)) (Int.ofNat 1)) (Int.ofNat 1) (wrapQ IntKind.i64 (Int.tdiv x0_4 x0_7)))
noncomputable def r21_3 (x0_0 : Int) (x0_1 : Int) (x0_2 : Int) (x0_3 : Int) (x0_4 : Int) (x0_5 : Int) (x0_6 : Int) (x0_7 : Int) (x0_8 : Int) : Int := iff (!r22_0 x0_0 x0_1 x0_2 x0_3 x0_4 x0_5 x0_6 x0_7 x0_8) (Int.ofNat 0) (iff (leQ (wrapQ IntKind.i64 (Int.tdiv x0_3 x0_7)) (Int.ofNat 1)) (Int.ofNat 1) (wrapQ IntKind.i64 (Int.tdiv x0_3 x0_7)))
noncomputable def r21_4 (x0_0 : Int) (x0_1 : Int) (x0_2 : Int) (x0_3 : Int) (x0_4 : Int) (x0_5 : Int) (x0_6 : Int) (x0_7 : Int) (x0_8 : Int) : Int := iff (!r22_0 x0_0 x0_1 x0_2 x0_3 x0_4 x0_5 x0_6 x0_7 x0_8) (Int.ofNat 0) x0_5
noncomputable def r21_5 (x0_0 : Int) (x0_1 : Int) (x0_2 : Int) (x0_3 : Int) (x0_4 : Int) (x0_5 : Int) (x0_6 : Int) (x0_7 : Int) (x0_8 : Int) : Int := iff (!r22_0 x0_0 x0_1 x0_2 x0_3 x0_4 x0_5 x0_6 x0_7 x0_8) (Int.ofNat 8) (Int.ofNat 0)
noncomputable def v21 (x0_0 : Int) (x0_1 : Int) (x0_2 : Int) (x0_3 : Int) (x0_4 : Int) (x0_5 : Int) (x0_6 : Int) (x0_7 : Int) (x0_8 : Int) : Value := Value.tuple (Array.mk [Value.agg (Array.mk [Value.int IntKind.i64 (r21_0 x0_0 x0_1 x0_2 x0_3 x0_4 x0_5 x0_6 x0_7 x0_8), Value.int IntKind.i64 (r21_1 x0_0 x0_1 x0_2 x0_3 x0_4 x0_5 x0_6 x0_7 x0_8), Value.int IntKind.i64 (r21_2 x0_0 x0_1 x0_2 x0_3 x0_4 x0_5 x0_6 x0_7 x0_8), Value.int IntKind.i64 (r21_3 x0_0 x0_1 x0_2 x0_3 x0_4 x0_5 x0_6 x0_7 x0_8), Value.int IntKind.i64 (r21_4 x0_0 x0_1 x0_2 x0_3 x0_4 x0_5 x0_6 x0_7 x0_8)]), Value.int IntKind.i64 (r21_5 x0_0 x0_1 x0_2 x0_3 x0_4 x0_5 x0_6 x0_7 x0_8)])
noncomputable def s21 : SpecF := fun args σ => andThen2 (gCons args) fun a0 q0 => andThen (gNil q0) fun _ => andThen (asA a0) fun l0 => andThen2 (gCons l0) fun c0_0 q0_0 => andThen (gI IntKind.i64 c0_0) fun x0_0 => andThen2 (gCons q0_0) fun c0_1 q0_1 => andThen (gI IntKind.i64 c0_1) fun x0_1 => andThen2 (gCons q0_1) fun c0_2 q0_2 => andThen (gI IntKind.i64 c0_2) fun x0_2 => andThen2 (gCons q0_2) fun c0_3 q0_3 => andThen (gI IntKind.i64 c0_3) fun x0_3 => andThen2 (gCons q0_3) fun c0_4 q0_4 => andThen (gI IntKind.i64 c0_4) fun x0_4 => andThen2 (gCons q0_4) fun c0_5 q0_5 => andThen (gI IntKind.i64 c0_5) fun x0_5 => andThen2 (gCons q0_5) fun c0_6 q0_6 => andThen (gI IntKind.i64 c0_6) fun x0_6 => andThen2 (gCons q0_6) fun c0_7 q0_7 => andThen (gI IntKind.i64 c0_7) fun x0_7 => andThen2 (gCons q0_7) fun c0_8 q0_8 => andThen (gI IntKind.i64 c0_8) fun x0_8 => andThen (gNil q0_8) fun _ => some (v21 x0_0 x0_1 x0_2 x0_3 x0_4 x0_5 x0_6 x0_7 x0_8, σ)
theorem s21_sim : SpecSim Tryd.prog noG 21 s21 := by
  refine plain_of (call := callL [(22, s22)]) ⟨[(30009, 1), (30015, 1)], []⟩ mix Tb.tys (callL_ok (fun p hp => by
    simp only [List.mem_cons, List.not_mem_nil, or_false] at hp
    rcases hp with rfl
    · exact s22_sim)) Tryd.func21 (by kernel_rfl) (by kernel_rfl) fun args σ v σ' h => ?_
  obtain ⟨a0, q0, e0, h⟩ := andThen2_eq h
  obtain ⟨_, en, h⟩ := andThen_eq h
  obtain ⟨l0, ea0, h⟩ := andThen_eq h
  obtain ⟨c0_0, q0_0, e0_0, h⟩ := andThen2_eq h
  obtain ⟨x0_0, ex0_0, h⟩ := andThen_eq h
  obtain ⟨c0_1, q0_1, e0_1, h⟩ := andThen2_eq h
  obtain ⟨x0_1, ex0_1, h⟩ := andThen_eq h
  obtain ⟨c0_2, q0_2, e0_2, h⟩ := andThen2_eq h
  obtain ⟨x0_2, ex0_2, h⟩ := andThen_eq h
  obtain ⟨c0_3, q0_3, e0_3, h⟩ := andThen2_eq h
  obtain ⟨x0_3, ex0_3, h⟩ := andThen_eq h
  obtain ⟨c0_4, q0_4, e0_4, h⟩ := andThen2_eq h
  obtain ⟨x0_4, ex0_4, h⟩ := andThen_eq h
  obtain ⟨c0_5, q0_5, e0_5, h⟩ := andThen2_eq h
  obtain ⟨x0_5, ex0_5, h⟩ := andThen_eq h
  obtain ⟨c0_6, q0_6, e0_6, h⟩ := andThen2_eq h
  obtain ⟨x0_6, ex0_6, h⟩ := andThen_eq h
  obtain ⟨c0_7, q0_7, e0_7, h⟩ := andThen2_eq h
  obtain ⟨x0_7, ex0_7, h⟩ := andThen_eq h
  obtain ⟨c0_8, q0_8, e0_8, h⟩ := andThen2_eq h
  obtain ⟨x0_8, ex0_8, h⟩ := andThen_eq h
  obtain ⟨_, en0, h⟩ := andThen_eq h
  cases h
  obtain rfl := gNil_eq en
  obtain rfl := gNil_eq en0
  obtain rfl := gCons_eq e0_8
  obtain rfl := gI_eq ex0_8
  obtain rfl := gCons_eq e0_7
  obtain rfl := gI_eq ex0_7
  obtain rfl := gCons_eq e0_6
  obtain rfl := gI_eq ex0_6
  obtain rfl := gCons_eq e0_5
  obtain rfl := gI_eq ex0_5
  obtain rfl := gCons_eq e0_4
  obtain rfl := gI_eq ex0_4
  obtain rfl := gCons_eq e0_3
  obtain rfl := gI_eq ex0_3
  obtain rfl := gCons_eq e0_2
  obtain rfl := gI_eq ex0_2
  obtain rfl := gCons_eq e0_1
  obtain rfl := gI_eq ex0_1
  obtain rfl := gCons_eq e0_0
  obtain rfl := gI_eq ex0_0
  obtain rfl := asA_eq ea0
  obtain rfl := gCons_eq e0
  refine ⟨rfl, .cons (VA.bareA (by rfl)) (.nil), VA.bareR (by rfl), fun L => ⟨(.split .done .done), ?_⟩⟩
  refine of_eq (b := (fun R : Value → Prop => ((!r22_0 x0_0 x0_1 x0_2 x0_3 x0_4 x0_5 x0_6 x0_7 x0_8) = true → R (Value.tuple (Array.mk [Value.agg (Array.mk [Value.int IntKind.i64 (Int.ofNat 0), Value.int IntKind.i64 (Int.ofNat 0), Value.int IntKind.i64 (Int.ofNat 0), Value.int IntKind.i64 (Int.ofNat 0), Value.int IntKind.i64 (Int.ofNat 0)]), Value.int IntKind.i64 (Int.ofNat 8)]))) ∧ ((!r22_0 x0_0 x0_1 x0_2 x0_3 x0_4 x0_5 x0_6 x0_7 x0_8) = false → eqQ x0_7 (Int.ofNat 0) = false ∧ eqQ x0_7 (Int.ofNat 0) = false ∧ R (Value.tuple (Array.mk [Value.agg (Array.mk [Value.int IntKind.i64 x0_5, Value.int IntKind.i64 (wrapQ IntKind.i64 (Int.mul (Int.ofNat 2000) x0_5)), Value.int IntKind.i64 (iff (leQ (wrapQ IntKind.i64 (Int.tdiv x0_4 x0_7)) (Int.ofNat 1)) (Int.ofNat 1) (wrapQ IntKind.i64 (Int.tdiv x0_4 x0_7))), Value.int IntKind.i64 (iff (leQ (wrapQ IntKind.i64 (Int.tdiv x0_3 x0_7)) (Int.ofNat 1)) (Int.ofNat 1) (wrapQ IntKind.i64 (Int.tdiv x0_3 x0_7))), Value.int IntKind.i64 x0_5]), Value.int IntKind.i64 (Int.ofNat 0)])))) (fun v => v = v21 x0_0 x0_1 x0_2 x0_3 x0_4 x0_5 x0_6 x0_7 x0_8)) (by kernel_rfl) ?_
  dsimp only
  repeat' (first | apply And.intro | intro)
  all_goals first | (simp only [v21, r21_0, r21_1, r21_2, r21_3, r21_4, r21_5, *, Abs.iff_true, Abs.iff_false]; done) | (simp only [Int.ofNat_eq_natCast, leQ_eq, eqQ_eq, Bool.not_eq_false', Bool.not_eq_true', decide_eq_true_eq, decide_eq_false_iff_not, beq_eq_false_iff_ne, ne_eq] at *; omega) | (simp only [r22_0, r24_0, Abs.iff_eq, Int.ofNat_eq_natCast, leQ_eq, eqQ_eq] at *; grind)
noncomputable def r20_0 (x0_0 : Int) (x0_1 : Int) (x0_2 : Int) (x0_3 : Int) (x0_4 : Int) (x0_5 : Int) (x0_6 : Int) (x0_7 : Int) (x0_8 : Int) : Int := iff (!leQ (Int.ofNat 1) x0_0) (Int.ofNat 0) (iff (!leQ x0_0 (Int.ofNat 3)) (Int.ofNat 0) (iff (!leQ (Int.ofNat 1) x0_1) (Int.ofNat 0) (iff (!leQ x0_1 (Int.ofNat 4)) (Int.ofNat 0) (iff (!leQ (Int.ofNat 1) x0_2) (Int.ofNat 0) (iff (!leQ x0_2 (Int.ofNat 40)) (Int.ofNat 0) (iff (!leQ (Int.ofNat 1) x0_3) (Int.ofNat 0) (iff (!leQ x0_3 (Int.ofNat 8)) (Int.ofNat 0) (iff (!leQ (Int.ofNat 1) x0_4) (Int.ofNat 0) (iff (!leQ x0_4 (Int.ofNat 8)) (Int.ofNat 0) (iff (!leQ (Int.ofNat 1) x0_5) (Int.ofNat 0) (iff (!leQ x0_5 (Int.ofNat 8)) (Int.ofNat 0) (iff (!leQ (Int.ofNat 1) x0_6) (Int.ofNat 0) (iff (!leQ x0_6 (Int.ofNat 4)) (Int.ofNat 0) (iff (!leQ (Int.ofNat 1) x0_7) (Int.ofNat 0) (iff (!leQ x0_7 (Int.ofNat 4)) (Int.ofNat 0) (iff (!leQ (Int.ofNat 1) x0_8) (Int.ofNat 0) (iff (!leQ x0_8 (Int.ofNat 8)) (Int.ofNat 0) x0_5)))))))))))))))))
noncomputable def r20_1 (x0_0 : Int) (x0_1 : Int) (x0_2 : Int) (x0_3 : Int) (x0_4 : Int) (x0_5 : Int) (x0_6 : Int) (x0_7 : Int) (x0_8 : Int) : Int := iff (!leQ (Int.ofNat 1) x0_0) (Int.ofNat 0) (iff (!leQ x0_0 (Int.ofNat 3)) (Int.ofNat 0) (iff (!leQ (Int.ofNat 1) x0_1) (Int.ofNat 0) (iff (!leQ x0_1 (Int.ofNat 4)) (Int.ofNat 0) (iff (!leQ (Int.ofNat 1) x0_2) (Int.ofNat 0) (iff (!leQ x0_2 (Int.ofNat 40)) (Int.ofNat 0) (iff (!leQ (Int.ofNat 1) x0_3) (Int.ofNat 0) (iff (!leQ x0_3 (Int.ofNat 8)) (Int.ofNat 0) (iff (!leQ (Int.ofNat 1) x0_4) (Int.ofNat 0) (iff (!leQ x0_4 (Int.ofNat 8)) (Int.ofNat 0) (iff (!leQ (Int.ofNat 1) x0_5) (Int.ofNat 0) (iff (!leQ x0_5 (Int.ofNat 8)) (Int.ofNat 0) (iff (!leQ (Int.ofNat 1) x0_6) (Int.ofNat 0) (iff (!leQ x0_6 (Int.ofNat 4)) (Int.ofNat 0) (iff (!leQ (Int.ofNat 1) x0_7) (Int.ofNat 0) (iff (!leQ x0_7 (Int.ofNat 4)) (Int.ofNat 0) (iff (!leQ (Int.ofNat 1) x0_8) (Int.ofNat 0) (iff (!leQ x0_8 (Int.ofNat 8)) (Int.ofNat 0) (wrapQ IntKind.i64 (Int.mul (Int.ofNat 2000) x0_5)))))))))))))))))))
noncomputable def r20_2 (x0_0 : Int) (x0_1 : Int) (x0_2 : Int) (x0_3 : Int) (x0_4 : Int) (x0_5 : Int) (x0_6 : Int) (x0_7 : Int) (x0_8 : Int) : Int := iff (!leQ (Int.ofNat 1) x0_0) (Int.ofNat 0) (iff (!leQ x0_0 (Int.ofNat 3)) (Int.ofNat 0) (iff (!leQ (Int.ofNat 1) x0_1) (Int.ofNat 0) (iff (!leQ x0_1 (Int.ofNat 4)) (Int.ofNat 0) (iff (!leQ (Int.ofNat 1) x0_2) (Int.ofNat 0) (iff (!leQ x0_2 (Int.ofNat 40)) (Int.ofNat 0) (iff (!leQ (Int.ofNat 1) x0_3) (Int.ofNat 0) (iff (!leQ x0_3 (Int.ofNat 8)) (Int.ofNat 0) (iff (!leQ (Int.ofNat 1) x0_4) (Int.ofNat 0) (iff (!leQ x0_4 (Int.ofNat 8)) (Int.ofNat 0) (iff (!leQ (Int.ofNat 1) x0_5) (Int.ofNat 0) (iff (!leQ x0_5 (Int.ofNat 8)) (Int.ofNat 0) (iff (!leQ (Int.ofNat 1) x0_6) (Int.ofNat 0) (iff (!leQ x0_6 (Int.ofNat 4)) (Int.ofNat 0) (iff (!leQ (Int.ofNat 1) x0_7) (Int.ofNat 0) (iff (!leQ x0_7 (Int.ofNat 4)) (Int.ofNat 0) (iff (!leQ (Int.ofNat 1) x0_8) (Int.ofNat 0) (iff (!leQ x0_8 (Int.ofNat 8)) (Int.ofNat 0) (iff (leQ (Int.ofNat 1) (wrapQ IntKind.i64 (Int.tdiv x0_4 x0_7))) (wrapQ IntKind.i64 (Int.tdiv x0_4 x0_7)) (Int.ofNat 1)))))))))))))))))))
noncomputable def r20_3 (x0_0 : Int) (x0_1 : Int) (x0_2 : Int) (x0_3 : Int) (x0_4 : Int) (x0_5 : Int) (x0_6 : Int) (x0_7 : Int) (x0_8 : Int) : Int := iff (!leQ (Int.ofNat 1) x0_0) (Int.ofNat 0) (iff (!leQ x0_0 (Int.ofNat 3)) (Int.ofNat 0) (iff (!leQ (Int.ofNat 1) x0_1) (Int.ofNat 0) (iff (!leQ x0_1 (Int.ofNat 4)) (Int.ofNat 0) (iff (!leQ (Int.ofNat 1) x0_2) (Int.ofNat 0) (iff (!leQ x0_2 (Int.ofNat 40)) (Int.ofNat 0) (iff (!leQ (Int.ofNat 1) x0_3) (Int.ofNat 0) (iff (!leQ x0_3 (Int.ofNat 8)) (Int.ofNat 0) (iff (!leQ (Int.ofNat 1) x0_4) (Int.ofNat 0) (iff (!leQ x0_4 (Int.ofNat 8)) (Int.ofNat 0) (iff (!leQ (Int.ofNat 1) x0_5) (Int.ofNat 0) (iff (!leQ x0_5 (Int.ofNat 8)) (Int.ofNat 0) (iff (!leQ (Int.ofNat 1) x0_6) (Int.ofNat 0) (iff (!leQ x0_6 (Int.ofNat 4)) (Int.ofNat 0) (iff (!leQ (Int.ofNat 1) x0_7) (Int.ofNat 0) (iff (!leQ x0_7 (Int.ofNat 4)) (Int.ofNat 0) (iff (!leQ (Int.ofNat 1) x0_8) (Int.ofNat 0) (iff (!leQ x0_8 (Int.ofNat 8)) (Int.ofNat 0) (iff (leQ (Int.ofNat 1) (wrapQ IntKind.i64 (Int.tdiv x0_3 x0_7))) (wrapQ IntKind.i64 (Int.tdiv x0_3 x0_7)) (Int.ofNat 1)))))))))))))))))))
noncomputable def r20_4 (x0_0 : Int) (x0_1 : Int) (x0_2 : Int) (x0_3 : Int) (x0_4 : Int) (x0_5 : Int) (x0_6 : Int) (x0_7 : Int) (x0_8 : Int) : Int := iff (!leQ (Int.ofNat 1) x0_0) (Int.ofNat 0) (iff (!leQ x0_0 (Int.ofNat 3)) (Int.ofNat 0) (iff (!leQ (Int.ofNat 1) x0_1) (Int.ofNat 0) (iff (!leQ x0_1 (Int.ofNat 4)) (Int.ofNat 0) (iff (!leQ (Int.ofNat 1) x0_2) (Int.ofNat 0) (iff (!leQ x0_2 (Int.ofNat 40)) (Int.ofNat 0) (iff (!leQ (Int.ofNat 1) x0_3) (Int.ofNat 0) (iff (!leQ x0_3 (Int.ofNat 8)) (Int.ofNat 0) (iff (!leQ (Int.ofNat 1) x0_4) (Int.ofNat 0) (iff (!leQ x0_4 (Int.ofNat 8)) (Int.ofNat 0) (iff (!leQ (Int.ofNat 1) x0_5) (Int.ofNat 0) (iff (!leQ x0_5 (Int.ofNat 8)) (Int.ofNat 0) (iff (!leQ (Int.ofNat 1) x0_6) (Int.ofNat 0) (iff (!leQ x0_6 (Int.ofNat 4)) (Int.ofNat 0) (iff (!leQ (Int.ofNat 1) x0_7) (Int.ofNat 0) (iff (!leQ x0_7 (Int.ofNat 4)) (Int.ofNat 0) (iff (!leQ (Int.ofNat 1) x0_8) (Int.ofNat 0) (iff (!leQ x0_8 (Int.ofNat 8)) (Int.ofNat 0) x0_5)))))))))))))))))
noncomputable def r20_5 (x0_0 : Int) (x0_1 : Int) (x0_2 : Int) (x0_3 : Int) (x0_4 : Int) (x0_5 : Int) (x0_6 : Int) (x0_7 : Int) (x0_8 : Int) : Int := iff (!leQ (Int.ofNat 1) x0_0) (Int.ofNat 8) (iff (!leQ x0_0 (Int.ofNat 3)) (Int.ofNat 8) (iff (!leQ (Int.ofNat 1) x0_1) (Int.ofNat 8) (iff (!leQ x0_1 (Int.ofNat 4)) (Int.ofNat 8) (iff (!leQ (Int.ofNat 1) x0_2) (Int.ofNat 8) (iff (!leQ x0_2 (Int.ofNat 40)) (Int.ofNat 8) (iff (!leQ (Int.ofNat 1) x0_3) (Int.ofNat 8) (iff (!leQ x0_3 (Int.ofNat 8)) (Int.ofNat 8) (iff (!leQ (Int.ofNat 1) x0_4) (Int.ofNat 8) (iff (!leQ x0_4 (Int.ofNat 8)) (Int.ofNat 8) (iff (!leQ (Int.ofNat 1) x0_5) (Int.ofNat 8) (iff (!leQ x0_5 (Int.ofNat 8)) (Int.ofNat 8) (iff (!leQ (Int.ofNat 1) x0_6) (Int.ofNat 8) (iff (!leQ x0_6 (Int.ofNat 4)) (Int.ofNat 8) (iff (!leQ (Int.ofNat 1) x0_7) (Int.ofNat 8) (iff (!leQ x0_7 (Int.ofNat 4)) (Int.ofNat 8) (iff (!leQ (Int.ofNat 1) x0_8) (Int.ofNat 8) (iff (!leQ x0_8 (Int.ofNat 8)) (Int.ofNat 8) (Int.ofNat 0))))))))))))))))))
noncomputable def v20 (x0_0 : Int) (x0_1 : Int) (x0_2 : Int) (x0_3 : Int) (x0_4 : Int) (x0_5 : Int) (x0_6 : Int) (x0_7 : Int) (x0_8 : Int) : Value := Value.tuple (Array.mk [Value.agg (Array.mk [Value.int IntKind.i64 (r20_0 x0_0 x0_1 x0_2 x0_3 x0_4 x0_5 x0_6 x0_7 x0_8), Value.int IntKind.i64 (r20_1 x0_0 x0_1 x0_2 x0_3 x0_4 x0_5 x0_6 x0_7 x0_8), Value.int IntKind.i64 (r20_2 x0_0 x0_1 x0_2 x0_3 x0_4 x0_5 x0_6 x0_7 x0_8), Value.int IntKind.i64 (r20_3 x0_0 x0_1 x0_2 x0_3 x0_4 x0_5 x0_6 x0_7 x0_8), Value.int IntKind.i64 (r20_4 x0_0 x0_1 x0_2 x0_3 x0_4 x0_5 x0_6 x0_7 x0_8)]), Value.int IntKind.i64 (r20_5 x0_0 x0_1 x0_2 x0_3 x0_4 x0_5 x0_6 x0_7 x0_8)])
noncomputable def s20 : SpecF := fun args σ => andThen2 (gCons args) fun a0 q0 => andThen (gNil q0) fun _ => andThen (asA a0) fun l0 => andThen2 (gCons l0) fun c0_0 q0_0 => andThen (gI IntKind.i64 c0_0) fun x0_0 => andThen2 (gCons q0_0) fun c0_1 q0_1 => andThen (gI IntKind.i64 c0_1) fun x0_1 => andThen2 (gCons q0_1) fun c0_2 q0_2 => andThen (gI IntKind.i64 c0_2) fun x0_2 => andThen2 (gCons q0_2) fun c0_3 q0_3 => andThen (gI IntKind.i64 c0_3) fun x0_3 => andThen2 (gCons q0_3) fun c0_4 q0_4 => andThen (gI IntKind.i64 c0_4) fun x0_4 => andThen2 (gCons q0_4) fun c0_5 q0_5 => andThen (gI IntKind.i64 c0_5) fun x0_5 => andThen2 (gCons q0_5) fun c0_6 q0_6 => andThen (gI IntKind.i64 c0_6) fun x0_6 => andThen2 (gCons q0_6) fun c0_7 q0_7 => andThen (gI IntKind.i64 c0_7) fun x0_7 => andThen2 (gCons q0_7) fun c0_8 q0_8 => andThen (gI IntKind.i64 c0_8) fun x0_8 => andThen (gNil q0_8) fun _ => some (v20 x0_0 x0_1 x0_2 x0_3 x0_4 x0_5 x0_6 x0_7 x0_8, σ)
theorem s20_sim : SpecSim Tryd.prog noG 20 s20 := by
  refine plain_of (call := callL []) ⟨[(70009, 1), (70015, 1)], [(2, 10)]⟩ mix Tb.tys (callL_ok (fun p hp => by cases hp)) Tryd.func20 (by kernel_rfl) (by kernel_rfl) fun args σ v σ' h => ?_
  obtain ⟨a0, q0, e0, h⟩ := andThen2_eq h
  obtain ⟨_, en, h⟩ := andThen_eq h
  obtain ⟨l0, ea0, h⟩ := andThen_eq h
  obtain ⟨c0_0, q0_0, e0_0, h⟩ := andThen2_eq h
  obtain ⟨x0_0, ex0_0, h⟩ := andThen_eq h
  obtain ⟨c0_1, q0_1, e0_1, h⟩ := andThen2_eq h
  obtain ⟨x0_1, ex0_1, h⟩ := andThen_eq h
  obtain ⟨c0_2, q0_2, e0_2, h⟩ := andThen2_eq h
  obtain ⟨x0_2, ex0_2, h⟩ := andThen_eq h
  obtain ⟨c0_3, q0_3, e0_3, h⟩ := andThen2_eq h
  obtain ⟨x0_3, ex0_3, h⟩ := andThen_eq h
  obtain ⟨c0_4, q0_4, e0_4, h⟩ := andThen2_eq h
  obtain ⟨x0_4, ex0_4, h⟩ := andThen_eq h
  obtain ⟨c0_5, q0_5, e0_5, h⟩ := andThen2_eq h
  obtain ⟨x0_5, ex0_5, h⟩ := andThen_eq h
  obtain ⟨c0_6, q0_6, e0_6, h⟩ := andThen2_eq h
  obtain ⟨x0_6, ex0_6, h⟩ := andThen_eq h
  obtain ⟨c0_7, q0_7, e0_7, h⟩ := andThen2_eq h
  obtain ⟨x0_7, ex0_7, h⟩ := andThen_eq h
  obtain ⟨c0_8, q0_8, e0_8, h⟩ := andThen2_eq h
  obtain ⟨x0_8, ex0_8, h⟩ := andThen_eq h
  obtain ⟨_, en0, h⟩ := andThen_eq h
  cases h
  obtain rfl := gNil_eq en
  obtain rfl := gNil_eq en0
  obtain rfl := gCons_eq e0_8
  obtain rfl := gI_eq ex0_8
  obtain rfl := gCons_eq e0_7
  obtain rfl := gI_eq ex0_7
  obtain rfl := gCons_eq e0_6
  obtain rfl := gI_eq ex0_6
  obtain rfl := gCons_eq e0_5
  obtain rfl := gI_eq ex0_5
  obtain rfl := gCons_eq e0_4
  obtain rfl := gI_eq ex0_4
  obtain rfl := gCons_eq e0_3
  obtain rfl := gI_eq ex0_3
  obtain rfl := gCons_eq e0_2
  obtain rfl := gI_eq ex0_2
  obtain rfl := gCons_eq e0_1
  obtain rfl := gI_eq ex0_1
  obtain rfl := gCons_eq e0_0
  obtain rfl := gI_eq ex0_0
  obtain rfl := asA_eq ea0
  obtain rfl := gCons_eq e0
  refine ⟨rfl, .cons (VA.bareA (by rfl)) (.nil), VA.bareR (by rfl), fun L => ⟨(.lit (.split (.lit (.lit (.lit (.lit (.split .done (.lit (.split (.lit (.lit (.lit (.lit (.split .done (.lit (.split (.lit (.lit (.lit (.lit (.split .done (.lit (.split (.lit (.lit (.lit (.lit (.split .done (.lit (.split (.lit (.lit (.lit (.lit (.split .done (.lit (.split (.lit (.lit (.lit (.lit (.split .done (.lit (.split (.lit (.lit (.lit (.lit (.split .done (.lit (.split (.lit (.lit (.lit (.lit (.split .done (.lit (.split (.lit (.lit (.lit (.lit (.split .done (.lit .done)))))) (.lit (.lit (.lit (.lit (.lit .done)))))))))))) (.lit (.lit (.lit (.lit (.lit .done)))))))))))) (.lit (.lit (.lit (.lit (.lit .done)))))))))))) (.lit (.lit (.lit (.lit (.lit .done)))))))))))) (.lit (.lit (.lit (.lit (.lit .done)))))))))))) (.lit (.lit (.lit (.lit (.lit .done)))))))))))) (.lit (.lit (.lit (.lit (.lit .done)))))))))))) (.lit (.lit (.lit (.lit (.lit .done)))))))))))) (.lit (.lit (.lit (.lit (.lit .done))))))), ?_⟩⟩
  refine of_eq (b := (fun R : Value → Prop => ((!leQ (Int.ofNat 1) x0_0) = false → ((!leQ x0_0 (Int.ofNat 3)) = true → R (Value.tuple (Array.mk [Value.agg (Array.mk [Value.int IntKind.i64 (Int.ofNat 0), Value.int IntKind.i64 (Int.ofNat 0), Value.int IntKind.i64 (Int.ofNat 0), Value.int IntKind.i64 (Int.ofNat 0), Value.int IntKind.i64 (Int.ofNat 0)]), Value.int IntKind.i64 (Int.ofNat 8)]))) ∧ ((!leQ x0_0 (Int.ofNat 3)) = false → ((!leQ (Int.ofNat 1) x0_1) = false → ((!leQ x0_1 (Int.ofNat 4)) = true → R (Value.tuple (Array.mk [Value.agg (Array.mk [Value.int IntKind.i64 (Int.ofNat 0), Value.int IntKind.i64 (Int.ofNat 0), Value.int IntKind.i64 (Int.ofNat 0), Value.int IntKind.i64 (Int.ofNat 0), Value.int IntKind.i64 (Int.ofNat 0)]), Value.int IntKind.i64 (Int.ofNat 8)]))) ∧ ((!leQ x0_1 (Int.ofNat 4)) = false → ((!leQ (Int.ofNat 1) x0_2) = false → ((!leQ x0_2 (Int.ofNat 40)) = true → R (Value.tuple (Array.mk [Value.agg (Array.mk [Value.int IntKind.i64 (Int.ofNat 0), Value.int IntKind.i64 (Int.ofNat 0), Value.int IntKind.i64 (Int.ofNat 0), Value.int IntKind.i64 (Int.ofNat 0), Value.int IntKind.i64 (Int.ofNat 0)]), Value.int IntKind.i64 (Int.ofNat 8)]))) ∧ ((!leQ x0_2 (Int.ofNat 40)) = false → ((!leQ (Int.ofNat 1) x0_3) = false → ((!leQ x0_3 (Int.ofNat 8)) = true → R (Value.tuple (Array.mk [Value.agg (Array.mk [Value.int IntKind.i64 (Int.ofNat 0), Value.int IntKind.i64 (Int.ofNat 0), Value.int IntKind.i64 (Int.ofNat 0), Value.int IntKind.i64 (Int.ofNat 0), Value.int IntKind.i64 (Int.ofNat 0)]), Value.int IntKind.i64 (Int.ofNat 8)]))) ∧ ((!leQ x0_3 (Int.ofNat 8)) = false → ((!leQ (Int.ofNat 1) x0_4) = false → ((!leQ x0_4 (Int.ofNat 8)) = true → R (Value.tuple (Array.mk [Value.agg (Array.mk [Value.int IntKind.i64 (Int.ofNat 0), Value.int IntKind.i64 (Int.ofNat 0), Value.int IntKind.i64 (Int.ofNat 0), Value.int IntKind.i64 (Int.ofNat 0), Value.int IntKind.i64 (Int.ofNat 0)]), Value.int IntKind.i64 (Int.ofNat 8)]))) ∧ ((!leQ x0_4 (Int.ofNat 8)) = false → ((!leQ (Int.ofNat 1) x0_5) = false → ((!leQ x0_5 (Int.ofNat 8)) = true → R (Value.tuple (Array.mk [Value.agg (Array.mk [Value.int IntKind.i64 (Int.ofNat 0), Value.int IntKind.i64 (Int.ofNat 0), Value.int IntKind.i64 (Int.ofNat 0), Value.int IntKind.i64 (Int.ofNat 0), Value.int IntKind.i64 (Int.ofNat 0)]), Value.int IntKind.i64 (Int.ofNat 8)]))) ∧ ((!leQ x0_5 (Int.ofNat 8)) = false → ((!leQ (Int.ofNat 1) x0_6) = false → ((!leQ x0_6 (Int.ofNat 4)) = true → R (Value.tuple (Array.mk [Value.agg (Array.mk [Value.int IntKind.i64 (Int.ofNat 0), Value.int IntKind.i64 (Int.ofNat 0), Value.int IntKind.i64 (Int.ofNat 0), Value.int IntKind.i64 (Int.ofNat 0), Value.int IntKind.i64 (Int.ofNat 0)]), Value.int IntKind.i64 (Int.ofNat 8)]))) ∧ ((!leQ x0_6 (Int.ofNat 4)) = false → ((!leQ (Int.ofNat 1) x0_7) = false → ((!leQ x0_7 (Int.ofNat 4)) = true → R (Value.tuple (Array.mk [Value.agg (Array.mk [Value.int IntKind.i64 (Int.ofNat 0), Value.int IntKind.i64 (Int.ofNat 0), Value.int IntKind.i64 (Int.ofNat 0), Value.int IntKind.i64 (Int.ofNat 0), Value.int IntKind.i64 (Int.ofNat 0)]), Value.int IntKind.i64 (Int.ofNat 8)]))) ∧ ((!leQ x0_7 (Int.ofNat 4)) = false → ((!leQ (Int.ofNat 1) x0_8) = false → ((!leQ x0_8 (Int.ofNat 8)) = true → R (Value.tuple (Array.mk [Value.agg (Array.mk [Value.int IntKind.i64 (Int.ofNat 0), Value.int IntKind.i64 (Int.ofNat 0), Value.int IntKind.i64 (Int.ofNat 0), Value.int IntKind.i64 (Int.ofNat 0), Value.int IntKind.i64 (Int.ofNat 0)]), Value.int IntKind.i64 (Int.ofNat 8)]))) ∧ ((!leQ x0_8 (Int.ofNat 8)) = false → eqQ x0_7 (Int.ofNat 0) = false ∧ eqQ x0_7 (Int.ofNat 0) = false ∧ R (Value.tuple (Array.mk [Value.agg (Array.mk [Value.int IntKind.i64 x0_5, Value.int IntKind.i64 (wrapQ IntKind.i64 (Int.mul (Int.ofNat 2000) x0_5)), Value.int IntKind.i64 (iff (leQ (Int.ofNat 1) (wrapQ IntKind.i64 (Int.tdiv x0_4 x0_7))) (wrapQ IntKind.i64 (Int.tdiv x0_4 x0_7)) (Int.ofNat 1)), Value.int IntKind.i64 (iff (leQ (Int.ofNat 1) (wrapQ IntKind.i64 (Int.tdiv x0_3 x0_7))) (wrapQ IntKind.i64 (Int.tdiv x0_3 x0_7)) (Int.ofNat 1)), Value.int IntKind.i64 x0_5]), Value.int IntKind.i64 (Int.ofNat 0)])))) ∧ ((!leQ (Int.ofNat 1) x0_8) = true → R (Value.tuple (Array.mk [Value.agg (Array.mk [Value.int IntKind.i64 (Int.ofNat 0), Value.int IntKind.i64 (Int.ofNat 0), Value.int IntKind.i64 (Int.ofNat 0), Value.int IntKind.i64 (Int.ofNat 0), Value.int IntKind.i64 (Int.ofNat 0)]), Value.int IntKind.i64 (Int.ofNat 8)]))))) ∧ ((!leQ (Int.ofNat 1) x0_7) = true → R (Value.tuple (Array.mk [Value.agg (Array.mk [Value.int IntKind.i64 (Int.ofNat 0), Value.int IntKind.i64 (Int.ofNat 0), Value.int IntKind.i64 (Int.ofNat 0), Value.int IntKind.i64 (Int.ofNat 0), Value.int IntKind.i64 (Int.ofNat 0)]), Value.int IntKind.i64 (Int.ofNat 8)]))))) ∧ ((!leQ (Int.ofNat 1) x0_6) = true → R (Value.tuple (Array.mk [Value.agg (Array.mk [Value.int IntKind.i64 (Int.ofNat 0), Value.int IntKind.i64 (Int.ofNat 0), Value.int IntKind.i64 (Int.ofNat 0), Value.int IntKind.i64 (Int.ofNat 0), Value.int IntKind.i64 (Int.ofNat 0)]), Value.int IntKind.i64 (Int.ofNat 8)]))))) ∧ ((!leQ (Int.ofNat 1) x0_5) = true → R (Value.tuple (Array.mk [Value.agg (Array.mk [Value.int IntKind.i64 (Int.ofNat 0), Value.int IntKind.i64 (Int.ofNat 0), Value.int IntKind.i64 (Int.ofNat 0), Value.int IntKind.i64 (Int.ofNat 0), Value.int IntKind.i64 (Int.ofNat 0)]), Value.int IntKind.i64 (Int.ofNat 8)]))))) ∧ ((!leQ (Int.ofNat 1) x0_4) = true → R (Value.tuple (Array.mk [Value.agg (Array.mk [Value.int IntKind.i64 (Int.ofNat 0), Value.int IntKind.i64 (Int.ofNat 0), Value.int IntKind.i64 (Int.ofNat 0), Value.int IntKind.i64 (Int.ofNat 0), Value.int IntKind.i64 (Int.ofNat 0)]), Value.int IntKind.i64 (Int.ofNat 8)]))))) ∧ ((!leQ (Int.ofNat 1) x0_3) = true → R (Value.tuple (Array.mk [Value.agg (Array.mk [Value.int IntKind.i64 (Int.ofNat 0), Value.int IntKind.i64 (Int.ofNat 0), Value.int IntKind.i64 (Int.ofNat 0), Value.int IntKind.i64 (Int.ofNat 0), Value.int IntKind.i64 (Int.ofNat 0)]), Value.int IntKind.i64 (Int.ofNat 8)]))))) ∧ ((!leQ (Int.ofNat 1) x0_2) = true → R (Value.tuple (Array.mk [Value.agg (Array.mk [Value.int IntKind.i64 (Int.ofNat 0), Value.int IntKind.i64 (Int.ofNat 0), Value.int IntKind.i64 (Int.ofNat 0), Value.int IntKind.i64 (Int.ofNat 0), Value.int IntKind.i64 (Int.ofNat 0)]), Value.int IntKind.i64 (Int.ofNat 8)]))))) ∧ ((!leQ (Int.ofNat 1) x0_1) = true → R (Value.tuple (Array.mk [Value.agg (Array.mk [Value.int IntKind.i64 (Int.ofNat 0), Value.int IntKind.i64 (Int.ofNat 0), Value.int IntKind.i64 (Int.ofNat 0), Value.int IntKind.i64 (Int.ofNat 0), Value.int IntKind.i64 (Int.ofNat 0)]), Value.int IntKind.i64 (Int.ofNat 8)]))))) ∧ ((!leQ (Int.ofNat 1) x0_0) = true → R (Value.tuple (Array.mk [Value.agg (Array.mk [Value.int IntKind.i64 (Int.ofNat 0), Value.int IntKind.i64 (Int.ofNat 0), Value.int IntKind.i64 (Int.ofNat 0), Value.int IntKind.i64 (Int.ofNat 0), Value.int IntKind.i64 (Int.ofNat 0)]), Value.int IntKind.i64 (Int.ofNat 8)])))) (fun v => v = v20 x0_0 x0_1 x0_2 x0_3 x0_4 x0_5 x0_6 x0_7 x0_8)) (by kernel_rfl) ?_
  dsimp only
  repeat' (first | apply And.intro | intro)
  all_goals first | (simp only [v20, r20_0, r20_1, r20_2, r20_3, r20_4, r20_5, *, Abs.iff_true, Abs.iff_false]; done) | (simp only [Int.ofNat_eq_natCast, leQ_eq, eqQ_eq, Bool.not_eq_false', Bool.not_eq_true', decide_eq_true_eq, decide_eq_false_iff_not, beq_eq_false_iff_ne, ne_eq] at *; omega)
noncomputable def r16_0 (x0_0 : Int) (x0_1 : Int) (x0_2 : Int) (x0_3 : Int) (x0_4 : Int) (x1_0 : Int) (x1_1 : Int) (x1_2 : Int) (x1_3 : Int) (x1_4 : Int) (x2_0 : Int) (x2_1 : Int) : Int := iff (!eqQ (r14_0 x0_0 x0_1 x0_2 x0_3 x0_4 x1_0 x1_1 x1_2 x1_3 x1_4) (Int.ofNat 0)) (Int.ofNat 0) (iff (!r29_0 x2_0 x2_1) (Int.ofNat 0) (iff (!r26_0 x0_0 x0_1 x0_2 x0_3 x0_4 (r30_0 x1_0 x1_1 x1_2 x1_3 x1_4 x2_0 x2_1) (r30_1 x1_0 x1_1 x1_2 x1_3 x1_4 x2_0 x2_1) (r30_2 x1_0 x1_1 x1_2 x1_3 x1_4 x2_0 x2_1) (r30_3 x1_0 x1_1 x1_2 x1_3 x1_4 x2_0 x2_1) (r30_4 x1_0 x1_1 x1_2 x1_3 x1_4 x2_0 x2_1)) (iff (r30_5 x1_0 x1_1 x1_2 x1_3 x1_4 x2_0 x2_1) (Int.ofNat 0) (iff (!r26_0 x0_0 x0_1 x0_2 x0_3 x0_4 (r30_0 x1_0 x1_1 x1_2 x1_3 x1_4 x2_0 x2_1) (r30_1 x1_0 x1_1 x1_2 x1_3 x1_4 x2_0 x2_1) (r30_2 x1_0 x1_1 x1_2 x1_3 x1_4 x2_0 x2_1) (r30_3 x1_0 x1_1 x1_2 x1_3 x1_4 x2_0 x2_1) (r30_4 x1_0 x1_1 x1_2 x1_3 x1_4 x2_0 x2_1)) (Int.ofNat 0) (r30_0 x1_0 x1_1 x1_2 x1_3 x1_4 x2_0 x2_1))) (iff (!r26_0 x0_0 x0_1 x0_2 x0_3 x0_4 (r30_0 x1_0 x1_1 x1_2 x1_3 x1_4 x2_0 x2_1) (r30_1 x1_0 x1_1 x1_2 x1_3 x1_4 x2_0 x2_1) (r30_2 x1_0 x1_1 x1_2 x1_3 x1_4 x2_0 x2_1) (r30_3 x1_0 x1_1 x1_2 x1_3 x1_4 x2_0 x2_1) (r30_4 x1_0 x1_1 x1_2 x1_3 x1_4 x2_0 x2_1)) (Int.ofNat 0) (r30_0 x1_0 x1_1 x1_2 x1_3 x1_4 x2_0 x2_1))))
noncomputable def r16_1 (x0_0 : Int) (x0_1 : Int) (x0_2 : Int) (x0_3 : Int) (x0_4 : Int) (x1_0 : Int) (x1_1 : Int) (x1_2 : Int) (x1_3 : Int) (x1_4 : Int) (x2_0 : Int) (x2_1 : Int) : Int := iff (!eqQ (r14_0 x0_0 x0_1 x0_2 x0_3 x0_4 x1_0 x1_1 x1_2 x1_3 x1_4) (Int.ofNat 0)) (Int.ofNat 0) (iff (!r29_0 x2_0 x2_1) (Int.ofNat 0) (iff (!r26_0 x0_0 x0_1 x0_2 x0_3 x0_4 (r30_0 x1_0 x1_1 x1_2 x1_3 x1_4 x2_0 x2_1) (r30_1 x1_0 x1_1 x1_2 x1_3 x1_4 x2_0 x2_1) (r30_2 x1_0 x1_1 x1_2 x1_3 x1_4 x2_0 x2_1) (r30_3 x1_0 x1_1 x1_2 x1_3 x1_4 x2_0 x2_1) (r30_4 x1_0 x1_1 x1_2 x1_3 x1_4 x2_0 x2_1)) (iff (r30_5 x1_0 x1_1 x1_2 x1_3 x1_4 x2_0 x2_1) (Int.ofNat 0) (iff (!r26_0 x0_0 x0_1 x0_2 x0_3 x0_4 (r30_0 x1_0 x1_1 x1_2 x1_3 x1_4 x2_0 x2_1) (r30_1 x1_0 x1_1 x1_2 x1_3 x1_4 x2_0 x2_1) (r30_2 x1_0 x1_1 x1_2 x1_3 x1_4 x2_0 x2_1) (r30_3 x1_0 x1_1 x1_2 x1_3 x1_4 x2_0 x2_1) (r30_4 x1_0 x1_1 x1_2 x1_3 x1_4 x2_0 x2_1)) (Int.ofNat 0) (r30_1 x1_0 x1_1 x1_2 x1_3 x1_4 x2_0 x2_1))) (iff (!r26_0 x0_0 x0_1 x0_2 x0_3 x0_4 (r30_0 x1_0 x1_1 x1_2 x1_3 x1_4 x2_0 x2_1) (r30_1 x1_0 x1_1 x1_2 x1_3 x1_4 x2_0 x2_1) (r30_2 x1_0 x1_1 x1_2 x1_3 x1_4 x2_0 x2_1) (r30_3 x1_0 x1_1 x1_2 x1_3 x1_4 x2_0 x2_1) (r30_4 x1_0 x1_1 x1_2 x1_3 x1_4 x2_0 x2_1)) (Int.ofNat 0) (r30_1 x1_0 x1_1 x1_2 x1_3 x1_4 x2_0 x2_1))))
noncomputable def r16_2 (x0_0 : Int) (x0_1 : Int) (x0_2 : Int) (x0_3 : Int) (x0_4 : Int) (x1_0 : Int) (x1_1 : Int) (x1_2 : Int) (x1_3 : Int) (x1_4 : Int) (x2_0 : Int) (x2_1 : Int) : Int := iff (!eqQ (r14_0 x0_0 x0_1 x0_2 x0_3 x0_4 x1_0 x1_1 x1_2 x1_3 x1_4) (Int.ofNat 0)) (Int.ofNat 0) (iff (!r29_0 x2_0 x2_1) (Int.ofNat 0) (iff (!r26_0 x0_0 x0_1 x0_2 x0_3 x0_4 (r30_0 x1_0 x1_1 x1_2 x1_3 x1_4 x2_0 x2_1) (r30_1 x1_0 x1_1 x1_2 x1_3 x1_4 x2_0 x2_1) (r30_2 x1_0 x1_1 x1_2 x1_3 x1_4 x2_0 x2_1) (r30_3 x1_0 x1_1 x1_2 x1_3 x1_4 x2_0 x2_1) (r30_4 x1_0 x1_1 x1_2 x1_3 x1_4 x2_0 x2_1)) (iff (r30_5 x1_0 x1_1 x1_2 x1_3 x1_4 x2_0 x2_1) (Int.ofNat 0) (iff (!r26_0 x0_0 x0_1 x0_2 x0_3 x0_4 (r30_0 x1_0 x1_1 x1_2 x1_3 x1_4 x2_0 x2_1) (r30_1 x1_0 x1_1 x1_2 x1_3 x1_4 x2_0 x2_1) (r30_2 x1_0 x1_1 x1_2 x1_3 x1_4 x2_0 x2_1) (r30_3 x1_0 x1_1 x1_2 x1_3 x1_4 x2_0 x2_1) (r30_4 x1_0 x1_1 x1_2 x1_3 x1_4 x2_0 x2_1)) (Int.ofNat 0) (r30_2 x1_0 x1_1 x1_2 x1_3 x1_4 x2_0 x2_1))) (iff (!r26_0 x0_0 x0_1 x0_2 x0_3 x0_4 (r30_0 x1_0 x1_1 x1_2 x1_3 x1_4 x2_0 x2_1) (r30_1 x1_0 x1_1 x1_2 x1_3 x1_4 x2_0 x2_1) (r30_2 x1_0 x1_1 x1_2 x1_3 x1_4 x2_0 x2_1) (r30_3 x1_0 x1_1 x1_2 x1_3 x1_4 x2_0 x2_1) (r30_4 x1_0 x1_1 x1_2 x1_3 x1_4 x2_0 x2_1)) (Int.ofNat 0) (r30_2 x1_0 x1_1 x1_2 x1_3 x1_4 x2_0 x2_1))))
noncomputable def r16_3 (x0_0 : Int) (x0_1 : Int) (x0_2 : Int) (x0_3 : Int) (x0_4 : Int) (x1_0 : Int) (x1_1 : Int) (x1_2 : Int) (x1_3 : Int) (x1_4 : Int) (x2_0 : Int) (x2_1 : Int) : Int := iff (!eqQ (r14_0 x0_0 x0_1 x0_2 x0_3 x0_4 x1_0 x1_1 x1_2 x1_3 x1_4) (Int.ofNat 0)) (Int.ofNat 0) (iff (!r29_0 x2_0 x2_1) (Int.ofNat 0) (iff (!r26_0 x0_0 x0_1 x0_2 x0_3 x0_4 (r30_0 x1_0 x1_1 x1_2 x1_3 x1_4 x2_0 x2_1) (r30_1 x1_0 x1_1 x1_2 x1_3 x1_4 x2_0 x2_1) (r30_2 x1_0 x1_1 x1_2 x1_3 x1_4 x2_0 x2_1) (r30_3 x1_0 x1_1 x1_2 x1_3 x1_4 x2_0 x2_1) (r30_4 x1_0 x1_1 x1_2 x1_3 x1_4 x2_0 x2_1)) (iff (r30_5 x1_0 x1_1 x1_2 x1_3 x1_4 x2_0 x2_1) (Int.ofNat 0) (iff (!r26_0 x0_0 x0_1 x0_2 x0_3 x0_4 (r30_0 x1_0 x1_1 x1_2 x1_3 x1_4 x2_0 x2_1) (r30_1 x1_0 x1_1 x1_2 x1_3 x1_4 x2_0 x2_1) (r30_2 x1_0 x1_1 x1_2 x1_3 x1_4 x2_0 x2_1) (r30_3 x1_0 x1_1 x1_2 x1_3 x1_4 x2_0 x2_1) (r30_4 x1_0 x1_1 x1_2 x1_3 x1_4 x2_0 x2_1)) (Int.ofNat 0) (r30_3 x1_0 x1_1 x1_2 x1_3 x1_4 x2_0 x2_1))) (iff (!r26_0 x0_0 x0_1 x0_2 x0_3 x0_4 (r30_0 x1_0 x1_1 x1_2 x1_3 x1_4 x2_0 x2_1) (r30_1 x1_0 x1_1 x1_2 x1_3 x1_4 x2_0 x2_1) (r30_2 x1_0 x1_1 x1_2 x1_3 x1_4 x2_0 x2_1) (r30_3 x1_0 x1_1 x1_2 x1_3 x1_4 x2_0 x2_1) (r30_4 x1_0 x1_1 x1_2 x1_3 x1_4 x2_0 x2_1)) (Int.ofNat 0) (r30_3 x1_0 x1_1 x1_2 x1_3 x1_4 x2_0 x2_1))))
noncomputable def r16_4 (x0_0 : Int) (x0_1 : Int) (x0_2 : Int) (x0_3 : Int) (x0_4 : Int) (x1_0 : Int) (x1_1 : Int) (x1_2 : Int) (x1_3 : Int) (x1_4 : Int) (x2_0 : Int) (x2_1 : Int) : Int := iff (!eqQ (r14_0 x0_0 x0_1 x0_2 x0_3 x0_4 x1_0 x1_1 x1_2 x1_3 x1_4) (Int.ofNat 0)) (Int.ofNat 0) (iff (!r29_0 x2_0 x2_1) (Int.ofNat 0) (iff (!r26_0 x0_0 x0_1 x0_2 x0_3 x0_4 (r30_0 x1_0 x1_1 x1_2 x1_3 x1_4 x2_0 x2_1) (r30_1 x1_0 x1_1 x1_2 x1_3 x1_4 x2_0 x2_1) (r30_2 x1_0 x1_1 x1_2 x1_3 x1_4 x2_0 x2_1) (r30_3 x1_0 x1_1 x1_2 x1_3 x1_4 x2_0 x2_1) (r30_4 x1_0 x1_1 x1_2 x1_3 x1_4 x2_0 x2_1)) (iff (r30_5 x1_0 x1_1 x1_2 x1_3 x1_4 x2_0 x2_1) (Int.ofNat 0) (iff (!r26_0 x0_0 x0_1 x0_2 x0_3 x0_4 (r30_0 x1_0 x1_1 x1_2 x1_3 x1_4 x2_0 x2_1) (r30_1 x1_0 x1_1 x1_2 x1_3 x1_4 x2_0 x2_1) (r30_2 x1_0 x1_1 x1_2 x1_3 x1_4 x2_0 x2_1) (r30_3 x1_0 x1_1 x1_2 x1_3 x1_4 x2_0 x2_1) (r30_4 x1_0 x1_1 x1_2 x1_3 x1_4 x2_0 x2_1)) (Int.ofNat 0) (r30_4 x1_0 x1_1 x1_2 x1_3 x1_4 x2_0 x2_1))) (iff (!r26_0 x0_0 x0_1 x0_2 x0_3 x0_4 (r30_0 x1_0 x1_1 x1_2 x1_3 x1_4 x2_0 x2_1) (r30_1 x1_0 x1_1 x1_2 x1_3 x1_4 x2_0 x2_1) (r30_2 x1_0 x1_1 x1_2 x1_3 x1_4 x2_0 x2_1) (r30_3 x1_0 x1_1 x1_2 x1_3 x1_4 x2_0 x2_1) (r30_4 x1_0 x1_1 x1_2 x1_3 x1_4 x2_0 x2_1)) (Int.ofNat 0) (r30_4 x1_0 x1_1 x1_2 x1_3 x1_4 x2_0 x2_1))))
noncomputable def r16_5 (x0_0 : Int) (x0_1 : Int) (x0_2 : Int) (x0_3 : Int) (x0_4 : Int) (x1_0 : Int) (x1_1 : Int) (x1_2 : Int) (x1_3 : Int) (x1_4 : Int) (x2_0 : Int) (x2_1 : Int) : Int := iff (!eqQ (r14_0 x0_0 x0_1 x0_2 x0_3 x0_4 x1_0 x1_1 x1_2 x1_3 x1_4) (Int.ofNat 0)) (r14_0 x0_0 x0_1 x0_2 x0_3 x0_4 x1_0 x1_1 x1_2 x1_3 x1_4) (iff (!r29_0 x2_0 x2_1) (Int.ofNat 2) (iff (!r26_0 x0_0 x0_1 x0_2 x0_3 x0_4 (r30_0 x1_0 x1_1 x1_2 x1_3 x1_4 x2_0 x2_1) (r30_1 x1_0 x1_1 x1_2 x1_3 x1_4 x2_0 x2_1) (r30_2 x1_0 x1_1 x1_2 x1_3 x1_4 x2_0 x2_1) (r30_3 x1_0 x1_1 x1_2 x1_3 x1_4 x2_0 x2_1) (r30_4 x1_0 x1_1 x1_2 x1_3 x1_4 x2_0 x2_1)) (iff (r30_5 x1_0 x1_1 x1_2 x1_3 x1_4 x2_0 x2_1) (Int.ofNat 36) (iff (!r26_0 x0_0 x0_1 x0_2 x0_3 x0_4 (r30_0 x1_0 x1_1 x1_2 x1_3 x1_4 x2_0 x2_1) (r30_1 x1_0 x1_1 x1_2 x1_3 x1_4 x2_0 x2_1) (r30_2 x1_0 x1_1 x1_2 x1_3 x1_4 x2_0 x2_1) (r30_3 x1_0 x1_1 x1_2 x1_3 x1_4 x2_0 x2_1) (r30_4 x1_0 x1_1 x1_2 x1_3 x1_4 x2_0 x2_1)) (Int.ofNat 18) (Int.ofNat 0))) (iff (!r26_0 x0_0 x0_1 x0_2 x0_3 x0_4 (r30_0 x1_0 x1_1 x1_2 x1_3 x1_4 x2_0 x2_1) (r30_1 x1_0 x1_1 x1_2 x1_3 x1_4 x2_0 x2_1) (r30_2 x1_0 x1_1 x1_2 x1_3 x1_4 x2_0 x2_1) (r30_3 x1_0 x1_1 x1_2 x1_3 x1_4 x2_0 x2_1) (r30_4 x1_0 x1_1 x1_2 x1_3 x1_4 x2_0 x2_1)) (Int.ofNat 18) (Int.ofNat 0))))
noncomputable def v16 (x0_0 : Int) (x0_1 : Int) (x0_2 : Int) (x0_3 : Int) (x0_4 : Int) (x1_0 : Int) (x1_1 : Int) (x1_2 : Int) (x1_3 : Int) (x1_4 : Int) (x2_0 : Int) (x2_1 : Int) : Value := Value.tuple (Array.mk [Value.agg (Array.mk [Value.int IntKind.i64 (r16_0 x0_0 x0_1 x0_2 x0_3 x0_4 x1_0 x1_1 x1_2 x1_3 x1_4 x2_0 x2_1), Value.int IntKind.i64 (r16_1 x0_0 x0_1 x0_2 x0_3 x0_4 x1_0 x1_1 x1_2 x1_3 x1_4 x2_0 x2_1), Value.int IntKind.i64 (r16_2 x0_0 x0_1 x0_2 x0_3 x0_4 x1_0 x1_1 x1_2 x1_3 x1_4 x2_0 x2_1), Value.int IntKind.i64 (r16_3 x0_0 x0_1 x0_2 x0_3 x0_4 x1_0 x1_1 x1_2 x1_3 x1_4 x2_0 x2_1), Value.int IntKind.i64 (r16_4 x0_0 x0_1 x0_2 x0_3 x0_4 x1_0 x1_1 x1_2 x1_3 x1_4 x2_0 x2_1)]), Value.int IntKind.i64 (r16_5 x0_0 x0_1 x0_2 x0_3 x0_4 x1_0 x1_1 x1_2 x1_3 x1_4 x2_0 x2_1)])
noncomputable def s16 : SpecF := fun args σ => andThen2 (gCons args) fun a0 q0 => andThen2 (gCons q0) fun a1 q1 => andThen2 (gCons q1) fun a2 q2 => andThen (gNil q2) fun _ => andThen (asA a0) fun l0 => andThen2 (gCons l0) fun c0_0 q0_0 => andThen (gI IntKind.i64 c0_0) fun x0_0 => andThen2 (gCons q0_0) fun c0_1 q0_1 => andThen (gI IntKind.i64 c0_1) fun x0_1 => andThen2 (gCons q0_1) fun c0_2 q0_2 => andThen (gI IntKind.i64 c0_2) fun x0_2 => andThen2 (gCons q0_2) fun c0_3 q0_3 => andThen (gI IntKind.i64 c0_3) fun x0_3 => andThen2 (gCons q0_3) fun c0_4 q0_4 => andThen (gI IntKind.i64 c0_4) fun x0_4 => andThen (gNil q0_4) fun _ => andThen (asA a1) fun l1 => andThen2 (gCons l1) fun c1_0 q1_0 => andThen (gI IntKind.i64 c1_0) fun x1_0 => andThen2 (gCons q1_0) fun c1_1 q1_1 => andThen (gI IntKind.i64 c1_1) fun x1_1 => andThen2 (gCons q1_1) fun c1_2 q1_2 => andThen (gI IntKind.i64 c1_2) fun x1_2 => andThen2 (gCons q1_2) fun c1_3 q1_3 => andThen (gI IntKind.i64 c1_3) fun x1_3 => andThen2 (gCons q1_3) fun c1_4 q1_4 => andThen (gI IntKind.i64 c1_4) fun x1_4 => andThen (gNil q1_4) fun _ => andThen (asA a2) fun l2 => andThen2 (gCons l2) fun c2_0 q2_0 => andThen (gI IntKind.u8 c2_0) fun x2_0 => andThen2 (gCons q2_0) fun c2_1 q2_1 => andThen (gI IntKind.i64 c2_1) fun x2_1 => andThen (gNil q2_1) fun _ => some (v16 x0_0 x0_1 x0_2 x0_3 x0_4 x1_0 x1_1 x1_2 x1_3 x1_4 x2_0 x2_1, σ)
theorem s16_sim : SpecSim Tryd.prog noG 16 s16 := by
  refine plain_of (call := callL [(14, s14), (26, s26), (29, s29), (30, s30)]) ⟨[], []⟩ mix Tb.tys (callL_ok (fun p hp => by
    simp only [List.mem_cons, List.not_mem_nil, or_false] at hp
    rcases hp with rfl | rfl | rfl | rfl
    · exact s14_sim
    · exact s26_sim
    · exact s29_sim
    · exact s30_sim)) Tryd.func16 (by kernel_rfl) (by kernel_rfl) fun args σ v σ' h => ?_
  obtain ⟨a0, q0, e0, h⟩ := andThen2_eq h
  obtain ⟨a1, q1, e1, h⟩ := andThen2_eq h
  obtain ⟨a2, q2, e2, h⟩ := andThen2_eq h
  obtain ⟨_, en, h⟩ := andThen_eq h
  obtain ⟨l0, ea0, h⟩ := andThen_eq h
  obtain ⟨c0_0, q0_0, e0_0, h⟩ := andThen2_eq h
  obtain ⟨x0_0, ex0_0, h⟩ := andThen_eq h
  obtain ⟨c0_1, q0_1, e0_1, h⟩ := andThen2_eq h
  obtain ⟨x0_1, ex0_1, h⟩ := andThen_eq h
  obtain ⟨c0_2, q0_2, e0_2, h⟩ := andThen2_eq h
  obtain ⟨x0_2, ex0_2, h⟩ := andThen_eq h
  obtain ⟨c0_3, q0_3, e0_3, h⟩ := andThen2_eq h
  obtain ⟨x0_3, ex0_3, h⟩ := andThen_eq h
  obtain ⟨c0_4, q0_4, e0_4, h⟩ := andThen2_eq h
  obtain ⟨x0_4, ex0_4, h⟩ := andThen_eq h
  obtain ⟨_, en0, h⟩ := andThen_eq h
  obtain ⟨l1, ea1, h⟩ := andThen_eq h
  obtain ⟨c1_0, q1_0, e1_0, h⟩ := andThen2_eq h
  obtain ⟨x1_0, ex1_0, h⟩ := andThen_eq h
  obtain ⟨c1_1, q1_1, e1_1, h⟩ := andThen2_eq h
  obtain ⟨x1_1, ex1_1, h⟩ := andThen_eq h
  obtain ⟨c1_2, q1_2, e1_2, h⟩ := andThen2_eq h
  obtain ⟨x1_2, ex1_2, h⟩ := andThen_eq h
  obtain ⟨c1_3, q1_3, e1_3, h⟩ := andThen2_eq h
  obtain ⟨x1_3, ex1_3, h⟩ := andThen_eq h
  obtain ⟨c1_4, q1_4, e1_4, h⟩ := andThen2_eq h
  obtain ⟨x1_4, ex1_4, h⟩ := andThen_eq h
  obtain ⟨_, en1, h⟩ := andThen_eq h
  obtain ⟨l2, ea2, h⟩ := andThen_eq h
  obtain ⟨c2_0, q2_0, e2_0, h⟩ := andThen2_eq h
  obtain ⟨x2_0, ex2_0, h⟩ := andThen_eq h
  obtain ⟨c2_1, q2_1, e2_1, h⟩ := andThen2_eq h
  obtain ⟨x2_1, ex2_1, h⟩ := andThen_eq h
  obtain ⟨_, en2, h⟩ := andThen_eq h
  cases h
  obtain rfl := gNil_eq en
  obtain rfl := gNil_eq en0
  obtain rfl := gCons_eq e0_4
  obtain rfl := gI_eq ex0_4
  obtain rfl := gCons_eq e0_3
  obtain rfl := gI_eq ex0_3
  obtain rfl := gCons_eq e0_2
  obtain rfl := gI_eq ex0_2
  obtain rfl := gCons_eq e0_1
  obtain rfl := gI_eq ex0_1
  obtain rfl := gCons_eq e0_0
  obtain rfl := gI_eq ex0_0
  obtain rfl := asA_eq ea0
  obtain rfl := gNil_eq en1
  obtain rfl := gCons_eq e1_4
  obtain rfl := gI_eq ex1_4
  obtain rfl := gCons_eq e1_3
  obtain rfl := gI_eq ex1_3
  obtain rfl := gCons_eq e1_2
  obtain rfl := gI_eq ex1_2
  obtain rfl := gCons_eq e1_1
  obtain rfl := gI_eq ex1_1
  obtain rfl := gCons_eq e1_0
  obtain rfl := gI_eq ex1_0
  obtain rfl := asA_eq ea1
  obtain rfl := gNil_eq en2
  obtain rfl := gCons_eq e2_1
  obtain rfl := gI_eq ex2_1
  obtain rfl := gCons_eq e2_0
  obtain rfl := gI_eq ex2_0
  obtain rfl := asA_eq ea2
  obtain rfl := gCons_eq e2
  obtain rfl := gCons_eq e1
  obtain rfl := gCons_eq e0
  refine ⟨rfl, .cons (VA.bareA (by rfl)) (.cons (VA.bareA (by rfl)) (.cons (VA.bareA (by rfl)) (.nil))), VA.bareR (by rfl), fun L => ⟨(.split .done (.split .done (.split (.split .done (.split .done .done)) (.lit (.split .done .done))))), ?_⟩⟩
  refine of_eq (b := (fun R : Value → Prop => ((!eqQ (r14_0 x0_0 x0_1 x0_2 x0_3 x0_4 x1_0 x1_1 x1_2 x1_3 x1_4) (Int.ofNat 0)) = true → R (Value.tuple (Array.mk [Value.agg (Array.mk [Value.int IntKind.i64 (Int.ofNat 0), Value.int IntKind.i64 (Int.ofNat 0), Value.int IntKind.i64 (Int.ofNat 0), Value.int IntKind.i64 (Int.ofNat 0), Value.int IntKind.i64 (Int.ofNat 0)]), Value.int IntKind.i64 (r14_0 x0_0 x0_1 x0_2 x0_3 x0_4 x1_0 x1_1 x1_2 x1_3 x1_4)]))) ∧ ((!eqQ (r14_0 x0_0 x0_1 x0_2 x0_3 x0_4 x1_0 x1_1 x1_2 x1_3 x1_4) (Int.ofNat 0)) = false → ((!r29_0 x2_0 x2_1) = true → R (Value.tuple (Array.mk [Value.agg (Array.mk [Value.int IntKind.i64 (Int.ofNat 0), Value.int IntKind.i64 (Int.ofNat 0), Value.int IntKind.i64 (Int.ofNat 0), Value.int IntKind.i64 (Int.ofNat 0), Value.int IntKind.i64 (Int.ofNat 0)]), Value.int IntKind.i64 (Int.ofNat 2)]))) ∧ ((!r29_0 x2_0 x2_1) = false → ((!r26_0 x0_0 x0_1 x0_2 x0_3 x0_4 (r30_0 x1_0 x1_1 x1_2 x1_3 x1_4 x2_0 x2_1) (r30_1 x1_0 x1_1 x1_2 x1_3 x1_4 x2_0 x2_1) (r30_2 x1_0 x1_1 x1_2 x1_3 x1_4 x2_0 x2_1) (r30_3 x1_0 x1_1 x1_2 x1_3 x1_4 x2_0 x2_1) (r30_4 x1_0 x1_1 x1_2 x1_3 x1_4 x2_0 x2_1)) = true → (r30_5 x1_0 x1_1 x1_2 x1_3 x1_4 x2_0 x2_1 = true → R (Value.tuple (Array.mk [Value.agg (Array.mk [Value.int IntKind.i64 (Int.ofNat 0), Value.int IntKind.i64 (Int.ofNat 0), Value.int IntKind.i64 (Int.ofNat 0), Value.int IntKind.i64 (Int.ofNat 0), Value.int IntKind.i64 (Int.ofNat 0)]), Value.int IntKind.i64 (Int.ofNat 36)]))) ∧ (r30_5 x1_0 x1_1 x1_2 x1_3 x1_4 x2_0 x2_1 = false → ((!r26_0 x0_0 x0_1 x0_2 x0_3 x0_4 (r30_0 x1_0 x1_1 x1_2 x1_3 x1_4 x2_0 x2_1) (r30_1 x1_0 x1_1 x1_2 x1_3 x1_4 x2_0 x2_1) (r30_2 x1_0 x1_1 x1_2 x1_3 x1_4 x2_0 x2_1) (r30_3 x1_0 x1_1 x1_2 x1_3 x1_4 x2_0 x2_1) (r30_4 x1_0 x1_1 x1_2 x1_3 x1_4 x2_0 x2_1)) = true → R (Value.tuple (Array.mk [Value.agg (Array.mk [Value.int IntKind.i64 (Int.ofNat 0), Value.int IntKind.i64 (Int.ofNat 0), Value.int IntKind.i64 (Int.ofNat 0), Value.int IntKind.i64 (Int.ofNat 0), Value.int IntKind.i64 (Int.ofNat 0)]), Value.int IntKind.i64 (Int.ofNat 18)]))) ∧ ((!r26_0 x0_0 x0_1 x0_2 x0_3 x0_4 (r30_0 x1_0 x1_1 x1_2 x1_3 x1_4 x2_0 x2_1) (r30_1 x1_0 x1_1 x1_2 x1_3 x1_4 x2_0 x2_1) (r30_2 x1_0 x1_1 x1_2 x1_3 x1_4 x2_0 x2_1) (r30_3 x1_0 x1_1 x1_2 x1_3 x1_4 x2_0 x2_1) (r30_4 x1_0 x1_1 x1_2 x1_3 x1_4 x2_0 x2_1)) = false → R (Value.tuple (Array.mk [Value.agg (Array.mk [Value.int IntKind.i64 (r30_0 x1_0 x1_1 x1_2 x1_3 x1_4 x2_0 x2_1), Value.int IntKind.i64 (r30_1 x1_0 x1_1 x1_2 x1_3 x1_4 x2_0 x2_1), Value.int IntKind.i64 (r30_2 x1_0 x1_1 x1_2 x1_3 x1_4 x2_0 x2_1), Value.int IntKind.i64 (r30_3 x1_0 x1_1 x1_2 x1_3 x1_4 x2_0 x2_1), Value.int IntKind.i64 (r30_4 x1_0 x1_1 x1_2 x1_3 x1_4 x2_0 x2_1)]), Value.int IntKind.i64 (Int.ofNat 0)]))))) ∧ ((!r26_0 x0_0 x0_1 x0_2 x0_3 x0_4 (r30_0 x1_0 x1_1 x1_2 x1_3 x1_4 x2_0 x2_1) (r30_1 x1_0 x1_1 x1_2 x1_3 x1_4 x2_0 x2_1) (r30_2 x1_0 x1_1 x1_2 x1_3 x1_4 x2_0 x2_1) (r30_3 x1_0 x1_1 x1_2 x1_3 x1_4 x2_0 x2_1) (r30_4 x1_0 x1_1 x1_2 x1_3 x1_4 x2_0 x2_1)) = false → ((!r26_0 x0_0 x0_1 x0_2 x0_3 x0_4 (r30_0 x1_0 x1_1 x1_2 x1_3 x1_4 x2_0 x2_1) (r30_1 x1_0 x1_1 x1_2 x1_3 x1_4 x2_0 x2_1) (r30_2 x1_0 x1_1 x1_2 x1_3 x1_4 x2_0 x2_1) (r30_3 x1_0 x1_1 x1_2 x1_3 x1_4 x2_0 x2_1) (r30_4 x1_0 x1_1 x1_2 x1_3 x1_4 x2_0 x2_1)) = true → R (Value.tuple (Array.mk [Value.agg (Array.mk [Value.int IntKind.i64 (Int.ofNat 0), Value.int IntKind.i64 (Int.ofNat 0), Value.int IntKind.i64 (Int.ofNat 0), Value.int IntKind.i64 (Int.ofNat 0), Value.int IntKind.i64 (Int.ofNat 0)]), Value.int IntKind.i64 (Int.ofNat 18)]))) ∧ ((!r26_0 x0_0 x0_1 x0_2 x0_3 x0_4 (r30_0 x1_0 x1_1 x1_2 x1_3 x1_4 x2_0 x2_1) (r30_1 x1_0 x1_1 x1_2 x1_3 x1_4 x2_0 x2_1) (r30_2 x1_0 x1_1 x1_2 x1_3 x1_4 x2_0 x2_1) (r30_3 x1_0 x1_1 x1_2 x1_3 x1_4 x2_0 x2_1) (r30_4 x1_0 x1_1 x1_2 x1_3 x1_4 x2_0 x2_1)) = false → R (Value.tuple (Array.mk [Value.agg (Array.mk [Value.int IntKind.i64 (r30_0 x1_0 x1_1 x1_2 x1_3 x1_4 x2_0 x2_1), Value.int IntKind.i64 (r30_1 x1_0 x1_1 x1_2 x1_3 x1_4 x2_0 x2_1), Value.int IntKind.i64 (r30_2 x1_0 x1_1 x1_2 x1_3 x1_4 x2_0 x2_1), Value.int IntKind.i64 (r30_3 x1_0 x1_1 x1_2 x1_3 x1_4 x2_0 x2_1), Value.int IntKind.i64 (r30_4 x1_0 x1_1 x1_2 x1_3 x1_4 x2_0 x2_1)]), Value.int IntKind.i64 (Int.ofNat 0)]))))))) (fun v => v = v16 x0_0 x0_1 x0_2 x0_3 x0_4 x1_0 x1_1 x1_2 x1_3 x1_4 x2_0 x2_1)) (by kernel_rfl) ?_
  dsimp only
  repeat' (first | apply And.intro | intro)
  all_goals first | (simp only [v16, r16_0, r16_1, r16_2, r16_3, r16_4, r16_5, *, Abs.iff_true, Abs.iff_false]; done) | (simp only [Int.ofNat_eq_natCast, leQ_eq, eqQ_eq, Bool.not_eq_false', Bool.not_eq_true', decide_eq_true_eq, decide_eq_false_iff_not, beq_eq_false_iff_ne, ne_eq] at *; omega) | (simp only [r14_0, r26_0, r29_0, r30_0, r30_1, r30_2, r30_3, r30_4, r30_5, Abs.iff_eq, Int.ofNat_eq_natCast, leQ_eq, eqQ_eq] at *; grind)
noncomputable def r15_0 (x0_0 : Int) (x0_1 : Int) (x0_2 : Int) (x0_3 : Int) (x0_4 : Int) (x1_0 : Int) (x1_1 : Int) (x1_2 : Int) (x1_3 : Int) (x1_4 : Int) (x2_0 : Int) (x2_1 : Int) : Int := iff (eqQ x2_0 (Int.ofNat 1)) (iff (!eqQ (r13_0 x0_0 x0_1 x0_2 x0_3 x0_4 x1_0 x1_1 x1_2 x1_3 x1_4) (Int.ofNat 0)) (Int.ofNat 0) (iff (!leQ (Int.ofNat 0) x2_1) (Int.ofNat 0) (iff (!leQ x2_1 (Int.ofNat 2000)) (Int.ofNat 0) (iff (r25_0 x0_0 x0_1 x0_2 x0_3 x0_4 (wrapQ IntKind.i64 (Int.add x1_0 (Int.ofNat 1))) (wrapQ IntKind.i64 (Int.add x1_1 (wrapQ IntKind.i64 (Int.mul (Int.ofNat 1) x2_1)))) (wrapQ IntKind.i64 (Int.add x1_2 (Int.ofNat 0))) (wrapQ IntKind.i64 (Int.add x1_3 (Int.ofNat 0))) (wrapQ IntKind.i64 (Int.add x1_4 (Int.ofNat 0)))) (wrapQ IntKind.i64 (Int.add x1_0 (Int.ofNat 1))) (Int.ofNat 0))))) (iff (eqQ x2_0 (Int.ofNat 2)) (iff (!eqQ (r13_0 x0_0 x0_1 x0_2 x0_3 x0_4 x1_0 x1_1 x1_2 x1_3 x1_4) (Int.ofNat 0)) (Int.ofNat 0) (iff (!leQ (Int.ofNat 0) x2_1) (Int.ofNat 0) (iff (!leQ x2_1 (Int.ofNat 2000)) (Int.ofNat 0) (iff (r25_0 x0_0 x0_1 x0_2 x0_3 x0_4 (wrapQ IntKind.i64 (Int.add x1_0 (Int.negSucc 0))) (wrapQ IntKind.i64 (Int.add x1_1 (wrapQ IntKind.i64 (Int.mul (Int.negSucc 0) x2_1)))) (wrapQ IntKind.i64 (Int.add x1_2 (Int.ofNat 0))) (wrapQ IntKind.i64 (Int.add x1_3 (Int.ofNat 0))) (wrapQ IntKind.i64 (Int.add x1_4 (Int.ofNat 0)))) (wrapQ IntKind.i64 (Int.add x1_0 (Int.negSucc 0))) (Int.ofNat 0))))) (iff (eqQ x2_0 (Int.ofNat 3)) (iff (!eqQ (r13_0 x0_0 x0_1 x0_2 x0_3 x0_4 x1_0 x1_1 x1_2 x1_3 x1_4) (Int.ofNat 0)) (Int.ofNat 0) (iff (!leQ (Int.ofNat 0) x2_1) (Int.ofNat 0) (iff (!leQ x2_1 (Int.ofNat 0)) (Int.ofNat 0) (iff (r25_0 x0_0 x0_1 x0_2 x0_3 x0_4 (wrapQ IntKind.i64 (Int.add x1_0 (Int.ofNat 0))) (wrapQ IntKind.i64 (Int.add x1_1 (wrapQ IntKind.i64 (Int.mul (Int.ofNat 0) x2_1)))) (wrapQ IntKind.i64 (Int.add x1_2 (Int.ofNat 1))) (wrapQ IntKind.i64 (Int.add x1_3 (Int.ofNat 0))) (wrapQ IntKind.i64 (Int.add x1_4 (Int.ofNat 0)))) (wrapQ IntKind.i64 (Int.add x1_0 (Int.ofNat 0))) (Int.ofNat 0))))) (iff (eqQ x2_0 (Int.ofNat 4)) (iff (!eqQ (r13_0 x0_0 x0_1 x0_2 x0_3 x0_4 x1_0 x1_1 x1_2 x1_3 x1_4) (Int.ofNat 0)) (Int.ofNat 0) (iff (!leQ (Int.ofNat 1) x2_1) (Int.ofNat 0) (iff (!leQ x2_1 (Int.ofNat 9)) (Int.ofNat 0) (iff (r25_0 x0_0 x0_1 x0_2 x0_3 x0_4 (wrapQ IntKind.i64 (Int.add x1_0 (Int.ofNat 0))) (wrapQ IntKind.i64 (Int.add x1_1 (wrapQ IntKind.i64 (Int.mul (Int.ofNat 0) x2_1)))) (wrapQ IntKind.i64 (Int.add x1_2 (Int.negSucc 0))) (iff (eqQ x2_1 (Int.ofNat 6)) (wrapQ IntKind.i64 (Int.add (wrapQ IntKind.i64 (Int.add x1_3 (Int.ofNat 0))) (Int.ofNat 1))) (wrapQ IntKind.i64 (Int.add x1_3 (Int.ofNat 0)))) (wrapQ IntKind.i64 (Int.add x1_4 (Int.ofNat 0)))) (wrapQ IntKind.i64 (Int.add x1_0 (Int.ofNat 0))) (Int.ofNat 0))))) (iff (eqQ x2_0 (Int.ofNat 5)) (iff (!eqQ (r13_0 x0_0 x0_1 x0_2 x0_3 x0_4 x1_0 x1_1 x1_2 x1_3 x1_4) (Int.ofNat 0)) (Int.ofNat 0) (iff (!leQ (Int.ofNat 0) x2_1) (Int.ofNat 0) (iff (!leQ x2_1 (Int.ofNat 0)) (Int.ofNat 0) (iff (r25_0 x0_0 x0_1 x0_2 x0_3 x0_4 (wrapQ IntKind.i64 (Int.add x1_0 (Int.ofNat 0))) (wrapQ IntKind.i64 (Int.add x1_1 (wrapQ IntKind.i64 (Int.mul (Int.ofNat 0) x2_1)))) (wrapQ IntKind.i64 (Int.add x1_2 (Int.ofNat 0))) (wrapQ IntKind.i64 (Int.add x1_3 (Int.negSucc 0))) (wrapQ IntKind.i64 (Int.add x1_4 (Int.ofNat 0)))) (wrapQ IntKind.i64 (Int.add x1_0 (Int.ofNat 0))) (Int.ofNat 0))))) (iff (eqQ x2_0 (Int.ofNat 6)) (iff (!eqQ (r13_0 x0_0 x0_1 x0_2 x0_3 x0_4 x1_0 x1_1 x1_2 x1_3 x1_4) (Int.ofNat 0)) (Int.ofNat 0) (iff (!leQ (Int.ofNat 0) x2_1) (Int.ofNat 0) (iff (!leQ x2_1 (Int.ofNat 0)) (Int.ofNat 0) (iff (r25_0 x0_0 x0_1 x0_2 x0_3 x0_4 (wrapQ IntKind.i64 (Int.add x1_0 (Int.ofNat 0))) (wrapQ IntKind.i64 (Int.add x1_1 (wrapQ IntKind.i64 (Int.mul (Int.ofNat 0) x2_1)))) (wrapQ IntKind.i64 (Int.add x1_2 (Int.ofNat 0))) (wrapQ IntKind.i64 (Int.add x1_3 (Int.ofNat 0))) (wrapQ IntKind.i64 (Int.add x1_4 (Int.ofNat 1)))) (wrapQ IntKind.i64 (Int.add x1_0 (Int.ofNat 0))) (Int.ofNat 0))))) (iff (eqQ x2_0 (Int.ofNat 7)) (iff (!eqQ (r13_0 x0_0 x0_1 x0_2 x0_3 x0_4 x1_0 x1_1 x1_2 x1_3 x1_4) (Int.ofNat 0)) (Int.ofNat 0) (iff (!leQ (Int.ofNat 0) x2_1) (Int.ofNat 0) (iff (!leQ x2_1 (Int.ofNat 0)) (Int.ofNat 0) (iff (r25_0 x0_0 x0_1 x0_2 x0_3 x0_4 (wrapQ IntKind.i64 (Int.add x1_0 (Int.ofNat 0))) (wrapQ IntKind.i64 (Int.add x1_1 (wrapQ IntKind.i64 (Int.mul (Int.ofNat 0) x2_1)))) (wrapQ IntKind.i64 (Int.add x1_2 (Int.ofNat 0))) (wrapQ IntKind.i64 (Int.add x1_3 (Int.ofNat 0))) (wrapQ IntKind.i64 (Int.add x1_4 (Int.negSucc 0)))) (wrapQ IntKind.i64 (Int.add x1_0 (Int.ofNat 0))) (Int.ofNat 0))))) (iff (!eqQ (r13_0 x0_0 x0_1 x0_2 x0_3 x0_4 x1_0 x1_1 x1_2 x1_3 x1_4) (Int.ofNat 0)) (Int.ofNat 0) (iff (!leQ (Int.ofNat 1) x2_0) (Int.ofNat 0) (Int.ofNat 0)))))))))
noncomputable def r15_1 (x0_0 : Int) (x0_1 : Int) (x0_2 : Int) (x0_3 : Int) (x0_4 : Int) (x1_0 : Int) (x1_1 : Int) (x1_2 : Int) (x1_3 : Int) (x1_4 : Int) (x2_0 : Int) (x2_1 : Int) : Int := iff (eqQ x2_0 (Int.ofNat 1)) (iff (!eqQ (r13_0 x0_0 x0_1 x0_2 x0_3 x0_4 x1_0 x1_1 x1_2 x1_3 x1_4) (Int.ofNat 0)) (Int.ofNat 0) (iff (!leQ (Int.ofNat 0) x2_1) (Int.ofNat 0) (iff (!leQ x2_1 (Int.ofNat 2000)) (Int.ofNat 0) (iff (r25_0 x0_0 x0_1 x0_2 x0_3 x0_4 (wrapQ IntKind.i64 (Int.add x1_0 (Int.ofNat 1))) (wrapQ IntKind.i64 (Int.add x1_1 (wrapQ IntKind.i64 (Int.mul (Int.ofNat 1) x2_1)))) (wrapQ IntKind.i64 (Int.add x1_2 (Int.ofNat 0))) (wrapQ IntKind.i64 (Int.add x1_3 (Int.ofNat 0))) (wrapQ IntKind.i64 (Int.add x1_4 (Int.ofNat 0)))) (wrapQ IntKind.i64 (Int.add x1_1 (wrapQ IntKind.i64 (Int.mul (Int.ofNat 1) x2_1)))) (Int.ofNat 0))))) (iff (eqQ x2_0 (Int.ofNat 2)) (iff (!eqQ (r13_0 x0_0 x0_1 x0_2 x0_3 x0_4 x1_0 x1_1 x1_2 x1_3 x1_4) (Int.ofNat 0)) (Int.ofNat 0) (iff (!leQ (Int.ofNat 0) x2_1) (Int.ofNat 0) (iff (!leQ x2_1 (Int.ofNat 2000)) (Int.ofNat 0) (iff (r25_0 x0_0 x0_1 x0_2 x0_3 x0_4 (wrapQ IntKind.i64 (Int.add x1_0 (Int.negSucc 0))) (wrapQ IntKind.i64 (Int.add x1_1 (wrapQ IntKind.i64 (Int.mul (Int.negSucc 0) x2_1)))) (wrapQ IntKind.i64 (Int.add x1_2 (Int.ofNat 0))) (wrapQ IntKind.i64 (Int.add x1_3 (Int.ofNat 0))) (wrapQ IntKind.i64 (Int.add x1_4 (Int.ofNat 0)))) (wrapQ IntKind.i64 (Int.add x1_1 (wrapQ IntKind.i64 (Int.mul (Int.negSucc 0) x2_1)))) (Int.ofNat 0))))) (iff (eqQ x2_0 (Int.ofNat 3)) (iff (!eqQ (r13_0 x0_0 x0_1 x0_2 x0_3 x0_4 x1_0 x1_1 x1_2 x1_3 x1_4) (Int.ofNat 0)) (Int.ofNat 0) (iff (!leQ (Int.ofNat 0) x2_1) (Int.ofNat 0) (iff (!leQ x2_1 (Int.ofNat 0)) (Int.ofNat 0) (iff (r25_0 x0_0 x0_1 x0_2 x0_3 x0_4 (wrapQ IntKind.i64 (Int.add x1_0 (Int.ofNat 0))) (wrapQ IntKind.i64 (Int.add x1_1 (wrapQ IntKind.i64 (Int.mul (Int.ofNat 0) x2_1)))) (wrapQ IntKind.i64 (Int.add x1_2 (Int.ofNat 1))) (wrapQ IntKind.i64 (Int.add x1_3 (Int.ofNat 0))) (wrapQ IntKind.i64 (Int.add x1_4 (Int.ofNat 0)))) (wrapQ IntKind.i64 (Int.add x1_1 (wrapQ IntKind.i64 (Int.mul (Int.ofNat 0) x2_1)))) (Int.ofNat 0))))) (iff (eqQ x2_0 (Int.ofNat 4)) (iff (!eqQ (r13_0 x0_0 x0_1 x0_2 x0_3 x0_4 x1_0 x1_1 x1_2 x1_3 x1_4) (Int.ofNat 0)) (Int.ofNat 0) (iff (!leQ (Int.ofNat 1) x2_1) (Int.ofNat 0) (iff (!leQ x2_1 (Int.ofNat 9)) (Int.ofNat 0) (iff (r25_0 x0_0 x0_1 x0_2 x0_3 x0_4 (wrapQ IntKind.i64 (Int.add x1_0 (Int.ofNat 0))) (wrapQ IntKind.i64 (Int.add x1_1 (wrapQ IntKind.i64 (Int.mul (Int.ofNat 0) x2_1)))) (wrapQ IntKind.i64 (Int.add x1_2 (Int.negSucc 0))) (iff (eqQ x2_1 (Int.ofNat 6)) (wrapQ IntKind.i64 (Int.add (wrapQ IntKind.i64 (Int.add x1_3 (Int.ofNat 0))) (Int.ofNat 1))) (wrapQ IntKind.i64 (Int.add x1_3 (Int.ofNat 0)))) (wrapQ IntKind.i64 (Int.add x1_4 (Int.ofNat 0)))) (wrapQ IntKind.i64 (Int.add x1_1 (wrapQ IntKind.i64 (Int.mul (Int.ofNat 0) x2_1)))) (Int.ofNat 0))))) (iff (eqQ x2_0 (Int.ofNat 5)) (iff (!eqQ (r13_0 x0_0 x0_1 x0_2 x0_3 x0_4 x1_0 x1_1 x1_2 x1_3 x1_4) (Int.ofNat 0)) (Int.ofNat 0) (iff (!leQ (Int.ofNat 0) x2_1) (Int.ofNat 0) (iff (!leQ x2_1 (Int.ofNat 0)) (Int.ofNat 0) (iff (r25_0 x0_0 x0_1 x0_2 x0_3 x0_4 (wrapQ IntKind.i64 (Int.add x1_0 (Int.ofNat 0))) (wrapQ IntKind.i64 (Int.add x1_1 (wrapQ IntKind.i64 (Int.mul (Int.ofNat 0) x2_1)))) (wrapQ IntKind.i64 (Int.add x1_2 (Int.ofNat 0))) (wrapQ IntKind.i64 (Int.add x1_3 (Int.negSucc 0))) (wrapQ IntKind.i64 (Int.add x1_4 (Int.ofNat 0)))) (wrapQ IntKind.i64 (Int.add x1_1 (wrapQ IntKind.i64 (Int.mul (Int.ofNat 0) x2_1)))) (Int.ofNat 0))))) (iff (eqQ x2_0 (Int.ofNat 6)) (iff (!eqQ (r13_0 x0_0 x0_1 x0_2 x0_3 x0_4 x1_0 x1_1 x1_2 x1_3 x1_4) (Int.ofNat 0)) (Int.ofNat 0) (iff (!leQ (Int.ofNat 0) x2_1) (Int.ofNat 0) (iff (!leQ x2_1 (Int.ofNat 0)) (Int.ofNat 0) (iff (r25_0 x0_0 x0_1 x0_2 x0_3 x0_4 (wrapQ IntKind.i64 (Int.add x1_0 (Int.ofNat 0))) (wrapQ IntKind.i64 (Int.add x1_1 (wrapQ IntKind.i64 (Int.mul (Int.ofNat 0) x2_1)))) (wrapQ IntKind.i64 (Int.add x1_2 (Int.ofNat 0))) (wrapQ IntKind.i64 (Int.add x1_3 (Int.ofNat 0))) (wrapQ IntKind.i64 (Int.add x1_4 (Int.ofNat 1)))) (wrapQ IntKind.i64 (Int.add x1_1 (wrapQ IntKind.i64 (Int.mul (Int.ofNat 0) x2_1)))) (Int.ofNat 0))))) (iff (eqQ x2_0 (Int.ofNat 7)) (iff (!eqQ (r13_0 x0_0 x0_1 x0_2 x0_3 x0_4 x1_0 x1_1 x1_2 x1_3 x1_4) (Int.ofNat 0)) (Int.ofNat 0) (iff (!leQ (Int.ofNat 0) x2_1) (Int.ofNat 0) (iff (!leQ x2_1 (Int.ofNat 0)) (Int.ofNat 0) (iff (r25_0 x0_0 x0_1 x0_2 x0_3 x0_4 (wrapQ IntKind.i64 (Int.add x1_0 (Int.ofNat 0))) (wrapQ IntKind.i64 (Int.add x1_1 (wrapQ IntKind.i64 (Int.mul (Int.ofNat 0) x2_1)))) (wrapQ IntKind.i64 (Int.add x1_2 (Int.ofNat 0))) (wrapQ IntKind.i64 (Int.add x1_3 (Int.ofNat 0))) (wrapQ IntKind.i64 (Int.add x1_4 (Int.negSucc 0)))) (wrapQ IntKind.i64 (Int.add x1_1 (wrapQ IntKind.i64 (Int.mul (Int.ofNat 0) x2_1)))) (Int.ofNat 0))))) (iff (!eqQ (r13_0 x0_0 x0_1 x0_2 x0_3 x0_4 x1_0 x1_1 x1_2 x1_3 x1_4) (Int.ofNat 0)) (Int.ofNat 0) (iff (!leQ (Int.ofNat 1) x2_0) (Int.ofNat 0) (Int.ofNat 0)))))))))
noncomputable def r15_2 (x0_0 : Int) (x0_1 : Int) (x0_2 : Int) (x0_3 : Int) (x0_4 : Int) (x1_0 : Int) (x1_1 : Int) (x1_2 : Int) (x1_3 : Int) (x1_4 : Int) (x2_0 : Int) (x2_1 : Int) : Int := iff (eqQ x2_0 (Int.ofNat 1)) (iff (!eqQ (r13_0 x0_0 x0_1 x0_2 x0_3 x0_4 x1_0 x1_1 x1_2 x1_3 x1_4) (Int.ofNat 0)) (Int.ofNat 0) (iff (!leQ (Int.ofNat 0) x2_1) (Int.ofNat 0) (iff (!leQ x2_1 (Int.ofNat 2000)) (Int.ofNat 0) (iff (r25_0 x0_0 x0_1 x0_2 x0_3 x0_4 (wrapQ IntKind.i64 (Int.add x1_0 (Int.ofNat 1))) (wrapQ IntKind.i64 (Int.add x1_1 (wrapQ IntKind.i64 (Int.mul (Int.ofNat 1) x2_1)))) (wrapQ IntKind.i64 (Int.add x1_2 (Int.ofNat 0))) (wrapQ IntKind.i64 (Int.add x1_3 (Int.ofNat 0))) (wrapQ IntKind.i64 (Int.add x1_4 (Int.ofNat 0)))) (wrapQ IntKind.i64 (Int.add x1_2 (Int.ofNat 0))) (Int.ofNat 0))))) (iff (eqQ x2_0 (Int.ofNat 2)) (iff (!eqQ (r13_0 x0_0 x0_1 x0_2 x0_3 x0_4 x1_0 x1_1 x1_2 x1_3 x1_4) (Int.ofNat 0)) (Int.ofNat 0) (iff (!leQ (Int.ofNat 0) x2_1) (Int.ofNat 0) (iff (!leQ x2_1 (Int.ofNat 2000)) (Int.ofNat 0) (iff (r25_0 x0_0 x0_1 x0_2 x0_3 x0_4 (wrapQ IntKind.i64 (Int.add x1_0 (Int.negSucc 0))) (wrapQ IntKind.i64 (Int.add x1_1 (wrapQ IntKind.i64 (Int.mul (Int.negSucc 0) x2_1)))) (wrapQ IntKind.i64 (Int.add x1_2 (Int.ofNat 0))) (wrapQ IntKind.i64 (Int.add x1_3 (Int.ofNat 0))) (wrapQ IntKind.i64 (Int.add x1_4 (Int.ofNat 0)))) (wrapQ IntKind.i64 (Int.add x1_2 (Int.ofNat 0))) (Int.ofNat 0))))) (iff (eqQ x2_0 (Int.ofNat 3)) (iff (!eqQ (r13_0 x0_0 x0_1 x0_2 x0_3 x0_4 x1_0 x1_1 x1_2 x1_3 x1_4) (Int.ofNat 0)) (Int.ofNat 0) (iff (!leQ (Int.ofNat 0) x2_1) (Int.ofNat 0) (iff (!leQ x2_1 (Int.ofNat 0)) (Int.ofNat 0) (iff (r25_0 x0_0 x0_1 x0_2 x0_3 x0_4 (wrapQ IntKind.i64 (Int.add x1_0 (Int.ofNat 0))) (wrapQ IntKind.i64 (Int.add x1_1 (wrapQ IntKind.i64 (Int.mul (Int.ofNat 0) x2_1)))) (wrapQ IntKind.i64 (Int.add x1_2 (Int.ofNat 1))) (wrapQ IntKind.i64 (Int.add x1_3 (Int.ofNat 0))) (wrapQ IntKind.i64 (Int.add x1_4 (Int.ofNat 0)))) (wrapQ IntKind.i64 (Int.add x1_2 (Int.ofNat 1))) (Int.ofNat 0))))) (iff (eqQ x2_0 (Int.ofNat 4)) (iff (!eqQ (r13_0 x0_0 x0_1 x0_2 x0_3 x0_4 x1_0 x1_1 x1_2 x1_3 x1_4) (Int.ofNat 0)) (Int.ofNat 0) (iff (!leQ (Int.ofNat 1) x2_1) (Int.ofNat 0) (iff (!leQ x2_1 (Int.ofNat 9)) (Int.ofNat 0) (iff (r25_0 x0_0 x0_1 x0_2 x0_3 x0_4 (wrapQ IntKind.i64 (Int.add x1_0 (Int.ofNat 0))) (wrapQ IntKind.i64 (Int.add x1_1 (wrapQ IntKind.i64 (Int.mul (Int.ofNat 0) x2_1)))) (wrapQ IntKind.i64 (Int.add x1_2 (Int.negSucc 0))) (iff (eqQ x2_1 (Int.ofNat 6)) (wrapQ IntKind.i64 (Int.add (wrapQ IntKind.i64 (Int.add x1_3 (Int.ofNat 0))) (Int.ofNat 1))) (wrapQ IntKind.i64 (Int.add x1_3 (Int.ofNat 0)))) (wrapQ IntKind.i64 (Int.add x1_4 (Int.ofNat 0)))) (wrapQ IntKind.i64 (Int.add x1_2 (Int.negSucc 0))) (Int.ofNat 0))))) (iff (eqQ x2_0 (Int.ofNat 5)) (iff (!eqQ (r13_0 x0_0 x0_1 x0_2 x0_3 x0_4 x1_0 x1_1 x1_2 x1_3 x1_4) (Int.ofNat 0)) (Int.ofNat 0) (iff (!leQ (Int.ofNat 0) x2_1) (Int.ofNat 0) (iff (!leQ x2_1 (Int.ofNat 0)) (Int.ofNat 0) (iff (r25_0 x0_0 x0_1 x0_2 x0_3 x0_4 (wrapQ IntKind.i64 (Int.add x1_0 (Int.ofNat 0))) (wrapQ IntKind.i64 (Int.add x1_1 (wrapQ IntKind.i64 (Int.mul (Int.ofNat 0) x2_1)))) (wrapQ IntKind.i64 (Int.add x1_2 (Int.ofNat 0))) (wrapQ IntKind.i64 (Int.add x1_3 (Int.negSucc 0))) (wrapQ IntKind.i64 (Int.add x1_4 (Int.ofNat 0)))) (wrapQ IntKind.i64 (Int.add x1_2 (Int.ofNat 0))) (Int.ofNat 0))))) (iff (eqQ x2_0 (Int.ofNat 6)) (iff (!eqQ (r13_0 x0_0 x0_1 x0_2 x0_3 x0_4 x1_0 x1_1 x1_2 x1_3 x1_4) (Int.ofNat 0)) (Int.ofNat 0) (iff (!leQ (Int.ofNat 0) x2_1) (Int.ofNat 0) (iff (!leQ x2_1 (Int.ofNat 0)) (Int.ofNat 0) (iff (r25_0 x0_0 x0_1 x0_2 x0_3 x0_4 (wrapQ IntKind.i64 (Int.add x1_0 (Int.ofNat 0))) (wrapQ IntKind.i64 (Int.add x1_1 (wrapQ IntKind.i64 (Int.mul (Int.ofNat 0) x2_1)))) (wrapQ IntKind.i64 (Int.add x1_2 (Int.ofNat 0))) (wrapQ IntKind.i64 (Int.add x1_3 (Int.ofNat 0))) (wrapQ IntKind.i64 (Int.add x1_4 (Int.ofNat 1)))) (wrapQ IntKind.i64 (Int.add x1_2 (Int.ofNat 0))) (Int.ofNat 0))))) (iff (eqQ x2_0 (Int.ofNat 7)) (iff (!eqQ (r13_0 x0_0 x0_1 x0_2 x0_3 x0_4 x1_0 x1_1 x1_2 x1_3 x1_4) (Int.ofNat 0)) (Int.ofNat 0) (iff (!leQ (Int.ofNat 0) x2_1) (Int.ofNat 0) (iff (!leQ x2_1 (Int.ofNat 0)) (Int.ofNat 0) (iff (r25_0 x0_0 x0_1 x0_2 x0_3 x0_4 (wrapQ IntKind.i64 (Int.add x1_0 (Int.ofNat 0))) (wrapQ IntKind.i64 (Int.add x1_1 (wrapQ IntKind.i64 (Int.mul (Int.ofNat 0) x2_1)))) (wrapQ IntKind.i64 (Int.add x1_2 (Int.ofNat 0))) (wrapQ IntKind.i64 (Int.add x1_3 (Int.ofNat 0))) (wrapQ IntKind.i64 (Int.add x1_4 (Int.negSucc 0)))) (wrapQ IntKind.i64 (Int.add x1_2 (Int.ofNat 0))) (Int.ofNat 0))))) (iff (!eqQ (r13_0 x0_0 x0_1 x0_2 x0_3 x0_4 x1_0 x1_1 x1_2 x1_3 x1_4) (Int.ofNat 0)) (Int.ofNat 0) (iff (!leQ (Int.ofNat 1) x2_0) (Int.ofNat 0) (Int.ofNat 0)))))))))
noncomputable def r15_3 (x0_0 : Int) (x0_1 : Int) (x0_2 : Int) (x0_3 : Int) (x0_4 : Int) (x1_0 : Int) (x1_1 : Int) (x1_2 : Int) (x1_3 : Int) (x1_4 : Int) (x2_0 : Int) (x2_1 : Int) : Int := iff (eqQ x2_0 (Int.ofNat 1)) (iff (!eqQ (r13_0 x0_0 x0_1 x0_2 x0_3 x0_4 x1_0 x1_1 x1_2 x1_3 x1_4) (Int.ofNat 0)) (Int.ofNat 0) (iff (!leQ (Int.ofNat 0) x2_1) (Int.ofNat 0) (iff (!leQ x2_1 (Int.ofNat 2000)) (Int.ofNat 0) (iff (r25_0 x0_0 x0_1 x0_2 x0_3 x0_4 (wrapQ IntKind.i64 (Int.add x1_0 (Int.ofNat 1))) (wrapQ IntKind.i64 (Int.add x1_1 (wrapQ IntKind.i64 (Int.mul (Int.ofNat 1) x2_1)))) (wrapQ IntKind.i64 (Int.add x1_2 (Int.ofNat 0))) (wrapQ IntKind.i64 (Int.add x1_3 (Int.ofNat 0))) (wrapQ IntKind.i64 (Int.add x1_4 (Int.ofNat 0)))) (wrapQ IntKind.i64 (Int.add x1_3 (Int.ofNat 0))) (Int.ofNat 0))))) (iff (eqQ x2_0 (Int.ofNat 2)) (iff (!eqQ (r13_0 x0_0 x0_1 x0_2 x0_3 x0_4 x1_0 x1_1 x1_2 x1_3 x1_4) (Int.ofNat 0)) (Int.ofNat 0) (iff (!leQ (Int.ofNat 0) x2_1) (Int.ofNat 0) (iff (!leQ x2_1 (Int.ofNat 2000)) (Int.ofNat 0) (iff (r25_0 x0_0 x0_1 x0_2 x0_3 x0_4 (wrapQ IntKind.i64 (Int.add x1_0 (Int.negSucc 0))) (wrapQ IntKind.i64 (Int.add x1_1 (wrapQ IntKind.i64 (Int.mul (Int.negSucc 0) x2_1)))) (wrapQ IntKind.i64 (Int.add x1_2 (Int.ofNat 0))) (wrapQ IntKind.i64 (Int.add x1_3 (Int.ofNat 0))) (wrapQ IntKind.i64 (Int.add x1_4 (Int.ofNat 0)))) (wrapQ IntKind.i64 (Int.add x1_3 (Int.ofNat 0))) (Int.ofNat 0))))) (iff (eqQ x2_0 (Int.ofNat 3)) (iff (!eqQ (r13_0 x0_0 x0_1 x0_2 x0_3 x0_4 x1_0 x1_1 x1_2 x1_3 x1_4) (Int.ofNat 0)) (Int.ofNat 0) (iff (!leQ (Int.ofNat 0) x2_1) (Int.ofNat 0) (iff (!leQ x2_1 (Int.ofNat 0)) (Int.ofNat 0) (iff (r25_0 x0_0 x0_1 x0_2 x0_3 x0_4 (wrapQ IntKind.i64 (Int.add x1_0 (Int.ofNat 0))) (wrapQ IntKind.i64 (Int.add x1_1 (wrapQ IntKind.i64 (Int.mul (Int.ofNat 0) x2_1)))) (wrapQ IntKind.i64 (Int.add x1_2 (Int.ofNat 1))) (wrapQ IntKind.i64 (Int.add x1_3 (Int.ofNat 0))) (wrapQ IntKind.i64 (Int.add x1_4 (Int.ofNat 0)))) (wrapQ IntKind.i64 (Int.add x1_3 (Int.ofNat 0))) (Int.ofNat 0))))) (iff (eqQ x2_0 (Int.ofNat 4)) (iff (!eqQ (r13_0 x0_0 x0_1 x0_2 x0_3 x0_4 x1_0 x1_1 x1_2 x1_3 x1_4) (Int.ofNat 0)) (Int.ofNat 0) (iff (!leQ (Int.ofNat 1) x2_1) (Int.ofNat 0) (iff (!leQ x2_1 (Int.ofNat 9)) (Int.ofNat 0) (iff (r25_0 x0_0 x0_1 x0_2 x0_3 x0_4 (wrapQ IntKind.i64 (Int.add x1_0 (Int.ofNat 0))) (wrapQ IntKind.i64 (Int.add x1_1 (wrapQ IntKind.i64 (Int.mul (Int.ofNat 0) x2_1)))) (wrapQ IntKind.i64 (Int.add x1_2 (Int.negSucc 0))) (iff (eqQ x2_1 (Int.ofNat 6)) (wrapQ IntKind.i64 (Int.add (wrapQ IntKind.i64 (Int.add x1_3 (Int.ofNat 0))) (Int.ofNat 1))) (wrapQ IntKind.i64 (Int.add x1_3 (Int.ofNat 0)))) (wrapQ IntKind.i64 (Int.add x1_4 (Int.ofNat 0)))) (iff (eqQ x2_1 (Int.ofNat 6)) (wrapQ IntKind.i64 (Int.add (wrapQ IntKind.i64 (Int.add x1_3 (Int.ofNat 0))) (Int.ofNat 1))) (wrapQ IntKind.i64 (Int.add x1_3 (Int.ofNat 0)))) (Int.ofNat 0))))) (iff (eqQ x2_0 (Int.ofNat 5)) (iff (!eqQ (r13_0 x0_0 x0_1 x0_2 x0_3 x0_4 x1_0 x1_1 x1_2 x1_3 x1_4) (Int.ofNat 0)) (Int.ofNat 0) (iff (!leQ (Int.ofNat 0) x2_1) (Int.ofNat 0) (iff (!leQ x2_1 (Int.ofNat 0)) (Int.ofNat 0) (iff (r25_0 x0_0 x0_1 x0_2 x0_3 x0_4 (wrapQ IntKind.i64 (Int.add x1_0 (Int.ofNat 0))) (wrapQ IntKind.i64 (Int.add x1_1 (wrapQ IntKind.i64 (Int.mul (Int.ofNat 0) x2_1)))) (wrapQ IntKind.i64 (Int.add x1_2 (Int.ofNat 0))) (wrapQ IntKind.i64 (Int.add x1_3 (Int.negSucc 0))) (wrapQ IntKind.i64 (Int.add x1_4 (Int.ofNat 0)))) (wrapQ IntKind.i64 (Int.add x1_3 (Int.negSucc 0))) (Int.ofNat 0))))) (iff (eqQ x2_0 (Int.ofNat 6)) (iff (!eqQ (r13_0 x0_0 x0_1 x0_2 x0_3 x0_4 x1_0 x1_1 x1_2 x1_3 x1_4) (Int.ofNat 0)) (Int.ofNat 0) (iff (!leQ (Int.ofNat 0) x2_1) (Int.ofNat 0) (iff (!leQ x2_1 (Int.ofNat 0)) (Int.ofNat 0) (iff (r25_0 x0_0 x0_1 x0_2 x0_3 x0_4 (wrapQ IntKind.i64 (Int.add x1_0 (Int.ofNat 0))) (wrapQ IntKind.i64 (Int.add x1_1 (wrapQ IntKind.i64 (Int.mul (Int.ofNat 0) x2_1)))) (wrapQ IntKind.i64 (Int.add x1_2 (Int.ofNat 0))) (wrapQ IntKind.i64 (Int.add x1_3 (Int.ofNat 0))) (wrapQ IntKind.i64 (Int.add x1_4 (Int.ofNat 1)))) (wrapQ IntKind.i64 (Int.add x1_3 (Int.ofNat 0))) (Int.ofNat 0))))) (iff (eqQ x2_0 (Int.ofNat 7)) (iff (!eqQ (r13_0 x0_0 x0_1 x0_2 x0_3 x0_4 x1_0 x1_1 x1_2 x1_3 x1_4) (Int.ofNat 0)) (Int.ofNat 0) (iff (!leQ (Int.ofNat 0) x2_1) (Int.ofNat 0) (iff (!leQ x2_1 (Int.ofNat 0)) (Int.ofNat 0) (iff (r25_0 x0_0 x0_1 x0_2 x0_3 x0_4 (wrapQ IntKind.i64 (Int.add x1_0 (Int.ofNat 0))) (wrapQ IntKind.i64 (Int.add x1_1 (wrapQ IntKind.i64 (Int.mul (Int.ofNat 0) x2_1)))) (wrapQ IntKind.i64 (Int.add x1_2 (Int.ofNat 0))) (wrapQ IntKind.i64 (Int.add x1_3 (Int.ofNat 0))) (wrapQ IntKind.i64 (Int.add x1_4 (Int.negSucc 0)))) (wrapQ IntKind.i64 (Int.add x1_3 (Int.ofNat 0))) (Int.ofNat 0))))) (iff (!eqQ (r13_0 x0_0 x0_1 x0_2 x0_3 x0_4 x1_0 x1_1 x1_2 x1_3 x1_4) (Int.ofNat 0)) (Int.ofNat 0) (iff (!leQ (Int.ofNat 1) x2_0) (Int.ofNat 0) (Int.ofNat 0)))))))))
noncomputable def r15_4 (x0_0 : Int) (x0_1 : Int) (x0_2 : Int) (x0_3 : Int) (x0_4 : Int) (x1_0 : Int) (x1_1 : Int) (x1_2 : Int) (x1_3 : Int) (x1_4 : Int) (x2_0 : Int) (x2_1 : Int) : Int := iff (eqQ x2_0 (Int.ofNat 1)) (iff (!eqQ (r13_0 x0_0 x0_1 x0_2 x0_3 x0_4 x1_0 x1_1 x1_2 x1_3 x1_4) (Int.ofNat 0)) (Int.ofNat 0) (iff (!leQ (Int.ofNat 0) x2_1) (Int.ofNat 0) (iff (!leQ x2_1 (Int.ofNat 2000)) (Int.ofNat 0) (iff (r25_0 x0_0 x0_1 x0_2 x0_3 x0_4 (wrapQ IntKind.i64 (Int.add x1_0 (Int.ofNat 1))) (wrapQ IntKind.i64 (Int.add x1_1 (wrapQ IntKind.i64 (Int.mul (Int.ofNat 1) x2_1)))) (wrapQ IntKind.i64 (Int.add x1_2 (Int.ofNat 0))) (wrapQ IntKind.i64 (Int.add x1_3 (Int.ofNat 0))) (wrapQ IntKind.i64 (Int.add x1_4 (Int.ofNat 0)))) (wrapQ IntKind.i64 (Int.add x1_4 (Int.ofNat 0))) (Int.ofNat 0))))) (iff (eqQ x2_0 (Int.ofNat 2)) (iff (!eqQ (r13_0 x0_0 x0_1 x0_2 x0_3 x0_4 x1_0 x1_1 x1_2 x1_3 x1_4) (Int.ofNat 0)) (Int.ofNat 0) (iff (!leQ (Int.ofNat 0) x2_1) (Int.ofNat 0) (iff (!leQ x2_1 (Int.ofNat 2000)) (Int.ofNat 0) (iff (r25_0 x0_0 x0_1 x0_2 x0_3 x0_4 (wrapQ IntKind.i64 (Int.add x1_0 (Int.negSucc 0))) (wrapQ IntKind.i64 (Int.add x1_1 (wrapQ IntKind.i64 (Int.mul (Int.negSucc 0) x2_1)))) (wrapQ IntKind.i64 (Int.add x1_2 (Int.ofNat 0))) (wrapQ IntKind.i64 (Int.add x1_3 (Int.ofNat 0))) (wrapQ IntKind.i64 (Int.add x1_4 (Int.ofNat 0)))) (wrapQ IntKind.i64 (Int.add x1_4 (Int.ofNat 0))) (Int.ofNat 0))))) (iff (eqQ x2_0 (Int.ofNat 3)) (iff (!eqQ (r13_0 x0_0 x0_1 x0_2 x0_3 x0_4 x1_0 x1_1 x1_2 x1_3 x1_4) (Int.ofNat 0)) (Int.ofNat 0) (iff (!leQ (Int.ofNat 0) x2_1) (Int.ofNat 0) (iff (!leQ x2_1 (Int.ofNat 0)) (Int.ofNat 0) (iff (r25_0 x0_0 x0_1 x0_2 x0_3 x0_4 (wrapQ IntKind.i64 (Int.add x1_0 (Int.ofNat 0))) (wrapQ IntKind.i64 (Int.add x1_1 (wrapQ IntKind.i64 (Int.mul (Int.ofNat 0) x2_1)))) (wrapQ IntKind.i64 (Int.add x1_2 (Int.ofNat 1))) (wrapQ IntKind.i64 (Int.add x1_3 (Int.ofNat 0))) (wrapQ IntKind.i64 (Int.add x1_4 (Int.ofNat 0)))) (wrapQ IntKind.i64 (Int.add x1_4 (Int.ofNat 0))) (Int.ofNat 0))))) (iff (eqQ x2_0 (Int.ofNat 4)) (iff (!eqQ (r13_0 x0_0 x0_1 x0_2 x0_3 x0_4 x1_0 x1_1 x1_2 x1_3 x1_4) (Int.ofNat 0)) (Int.ofNat 0) (iff (!leQ (Int.ofNat 1) x2_1) (Int.ofNat 0) (iff (!leQ x2_1 (Int.ofNat 9)) (Int.ofNat 0) (iff (r25_0 x0_0 x0_1 x0_2 x0_3 x0_4 (wrapQ IntKind.i64 (Int.add x1_0 (Int.ofNat 0))) (wrapQ IntKind.i64 (Int.add x1_1 (wrapQ IntKind.i64 (Int.mul (Int.ofNat 0) x2_1)))) (wrapQ IntKind.i64 (Int.add x1_2 (Int.negSucc 0))) (iff (eqQ x2_1 (Int.ofNat 6)) (wrapQ IntKind.i64 (Int.add (wrapQ IntKind.i64 (Int.add x1_3 (Int.ofNat 0))) (Int.ofNat 1))) (wrapQ IntKind.i64 (Int.add x1_3 (Int.ofNat 0)))) (wrapQ IntKind.i64 (Int.add x1_4 (Int.ofNat 0)))) (wrapQ IntKind.i64 (Int.add x1_4 (Int.ofNat 0))) (Int.ofNat 0))))) (iff (eqQ x2_0 (Int.ofNat 5)) (iff (!eqQ (r13_0 x0_0 x0_1 x0_2 x0_3 x0_4 x1_0 x1_1 x1_2 x1_3 x1_4) (Int.ofNat 0)) (Int.ofNat 0) (iff (!leQ (Int.ofNat 0) x2_1) (Int.ofNat 0) (iff (!leQ x2_1 (Int.ofNat 0)) (Int.ofNat 0) (iff (r25_0 x0_0 x0_1 x0_2 x0_3 x0_4 (wrapQ IntKind.i64 (Int.add x1_0 (Int.ofNat 0))) (wrapQ IntKind.i64 (Int.add x1_1 (wrapQ IntKind.i64 (Int.mul (Int.ofNat 0) x2_1)))) (wrapQ IntKind.i64 (Int.add x1_2 (Int.ofNat 0))) (wrapQ IntKind.i64 (Int.add x1_3 (Int.negSucc 0))) (wrapQ IntKind.i64 (Int.add x1_4 (Int.ofNat 0)))) (wrapQ IntKind.i64 (Int.add x1_4 (Int.ofNat 0))) (Int.ofNat 0))))) (iff (eqQ x2_0 (Int.ofNat 6)) (iff (!eqQ (r13_0 x0_0 x0_1 x0_2 x0_3 x0_4 x1_0 x1_1 x1_2 x1_3 x1_4) (Int.ofNat 0)) (Int.ofNat 0) (iff (!leQ (Int.ofNat 0) x2_1) (Int.ofNat 0) (iff (!leQ x2_1 (Int.ofNat 0)) (Int.ofNat 0) (iff (r25_0 x0_0 x0_1 x0_2 x0_3 x0_4 (wrapQ IntKind.i64 (Int.add x1_0 (Int.ofNat 0))) (wrapQ IntKind.i64 (Int.add x1_1 (wrapQ IntKind.i64 (Int.mul (Int.ofNat 0) x2_1)))) (wrapQ IntKind.i64 (Int.add x1_2 (Int.ofNat 0))) (wrapQ IntKind.i64 (Int.add x1_3 (Int.ofNat 0))) (wrapQ IntKind.i64 (Int.add x1_4 (Int.ofNat 1)))) (wrapQ IntKind.i64 (Int.add x1_4 (Int.ofNat 1))) (Int.ofNat 0))))) (iff (eqQ x2_0 (Int.ofNat 7)) (iff (!eqQ (r13_0 x0_0 x0_1 x0_2 x0_3 x0_4 x1_0 x1_1 x1_2 x1_3 x1_4) (Int.ofNat 0)) (Int.ofNat 0) (iff (!leQ (Int.ofNat 0) x2_1) (Int.ofNat 0) (iff (!leQ x2_1 (Int.ofNat 0)) (Int.ofNat 0) (iff (r25_0 x0_0 x0_1 x0_2 x0_3 x0_4 (wrapQ IntKind.i64 (Int.add x1_0 (Int.ofNat 0))) (wrapQ IntKind.i64 (Int.add x1_1 (wrapQ IntKind.i64 (Int.mul (Int.ofNat 0) x2_1)))) (wrapQ IntKind.i64 (Int.add x1_2 (Int.ofNat 0))) (wrapQ IntKind.i64 (Int.add x1_3 (Int.ofNat 0))) (wrapQ IntKind.i64 (Int.add x1_4 (Int.negSucc 0)))) (wrapQ IntKind.i64 (Int.add x1_4 (Int.negSucc 0))) (Int.ofNat 0))))) (iff (!eqQ (r13_0 x0_0 x0_1 x0_2 x0_3 x0_4 x1_0 x1_1 x1_2 x1_3 x1_4) (Int.ofNat 0)) (Int.ofNat 0) (iff (!leQ (Int.ofNat 1) x2_0) (Int.ofNat 0) (Int.ofNat 0)))))))))
noncomputable def r15_5 (x0_0 : Int) (x0_1 : Int) (x0_2 : Int) (x0_3 : Int) (x0_4 : Int) (x1_0 : Int) (x1_1 : Int) (x1_2 : Int) (x1_3 : Int) (x1_4 : Int) (x2_0 : Int) (x2_1 : Int) : Int := iff (eqQ x2_0 (Int.ofNat 1)) (iff (!eqQ (r13_0 x0_0 x0_1 x0_2 x0_3 x0_4 x1_0 x1_1 x1_2 x1_3 x1_4) (Int.ofNat 0)) (r13_0 x0_0 x0_1 x0_2 x0_3 x0_4 x1_0 x1_1 x1_2 x1_3 x1_4) (iff (!leQ (Int.ofNat 0) x2_1) (Int.ofNat 2) (iff (!leQ x2_1 (Int.ofNat 2000)) (Int.ofNat 2) (iff (r25_0 x0_0 x0_1 x0_2 x0_3 x0_4 (wrapQ IntKind.i64 (Int.add x1_0 (Int.ofNat 1))) (wrapQ IntKind.i64 (Int.add x1_1 (wrapQ IntKind.i64 (Int.mul (Int.ofNat 1) x2_1)))) (wrapQ IntKind.i64 (Int.add x1_2 (Int.ofNat 0))) (wrapQ IntKind.i64 (Int.add x1_3 (Int.ofNat 0))) (wrapQ IntKind.i64 (Int.add x1_4 (Int.ofNat 0)))) (Int.ofNat 0) (Int.ofNat 18))))) (iff (eqQ x2_0 (Int.ofNat 2)) (iff (!eqQ (r13_0 x0_0 x0_1 x0_2 x0_3 x0_4 x1_0 x1_1 x1_2 x1_3 x1_4) (Int.ofNat 0)) (r13_0 x0_0 x0_1 x0_2 x0_3 x0_4 x1_0 x1_1 x1_2 x1_3 x1_4) (iff (!leQ (Int.ofNat 0) x2_1) (Int.ofNat 2) (iff (!leQ x2_1 (Int.ofNat 2000)) (Int.ofNat 2) (iff (r25_0 x0_0 x0_1 x0_2 x0_3 x0_4 (wrapQ IntKind.i64 (Int.add x1_0 (Int.negSucc 0))) (wrapQ IntKind.i64 (Int.add x1_1 (wrapQ IntKind.i64 (Int.mul (Int.negSucc 0) x2_1)))) (wrapQ IntKind.i64 (Int.add x1_2 (Int.ofNat 0))) (wrapQ IntKind.i64 (Int.add x1_3 (Int.ofNat 0))) (wrapQ IntKind.i64 (Int.add x1_4 (Int.ofNat 0)))) (Int.ofNat 0) (Int.ofNat 36))))) (iff (eqQ x2_0 (Int.ofNat 3)) (iff (!eqQ (r13_0 x0_0 x0_1 x0_2 x0_3 x0_4 x1_0 x1_1 x1_2 x1_3 x1_4) (Int.ofNat 0)) (r13_0 x0_0 x0_1 x0_2 x0_3 x0_4 x1_0 x1_1 x1_2 x1_3 x1_4) (iff (!leQ (Int.ofNat 0) x2_1) (Int.ofNat 2) (iff (!leQ x2_1 (Int.ofNat 0)) (Int.ofNat 2) (iff (r25_0 x0_0 x0_1 x0_2 x0_3 x0_4 (wrapQ IntKind.i64 (Int.add x1_0 (Int.ofNat 0))) (wrapQ IntKind.i64 (Int.add x1_1 (wrapQ IntKind.i64 (Int.mul (Int.ofNat 0) x2_1)))) (wrapQ IntKind.i64 (Int.add x1_2 (Int.ofNat 1))) (wrapQ IntKind.i64 (Int.add x1_3 (Int.ofNat 0))) (wrapQ IntKind.i64 (Int.add x1_4 (Int.ofNat 0)))) (Int.ofNat 0) (Int.ofNat 18))))) (iff (eqQ x2_0 (Int.ofNat 4)) (iff (!eqQ (r13_0 x0_0 x0_1 x0_2 x0_3 x0_4 x1_0 x1_1 x1_2 x1_3 x1_4) (Int.ofNat 0)) (r13_0 x0_0 x0_1 x0_2 x0_3 x0_4 x1_0 x1_1 x1_2 x1_3 x1_4) (iff (!leQ (Int.ofNat 1) x2_1) (Int.ofNat 2) (iff (!leQ x2_1 (Int.ofNat 9)) (Int.ofNat 2) (iff (r25_0 x0_0 x0_1 x0_2 x0_3 x0_4 (wrapQ IntKind.i64 (Int.add x1_0 (Int.ofNat 0))) (wrapQ IntKind.i64 (Int.add x1_1 (wrapQ IntKind.i64 (Int.mul (Int.ofNat 0) x2_1)))) (wrapQ IntKind.i64 (Int.add x1_2 (Int.negSucc 0))) (iff (eqQ x2_1 (Int.ofNat 6)) (wrapQ IntKind.i64 (Int.add (wrapQ IntKind.i64 (Int.add x1_3 (Int.ofNat 0))) (Int.ofNat 1))) (wrapQ IntKind.i64 (Int.add x1_3 (Int.ofNat 0)))) (wrapQ IntKind.i64 (Int.add x1_4 (Int.ofNat 0)))) (Int.ofNat 0) (Int.ofNat 36))))) (iff (eqQ x2_0 (Int.ofNat 5)) (iff (!eqQ (r13_0 x0_0 x0_1 x0_2 x0_3 x0_4 x1_0 x1_1 x1_2 x1_3 x1_4) (Int.ofNat 0)) (r13_0 x0_0 x0_1 x0_2 x0_3 x0_4 x1_0 x1_1 x1_2 x1_3 x1_4) (iff (!leQ (Int.ofNat 0) x2_1) (Int.ofNat 2) (iff (!leQ x2_1 (Int.ofNat 0)) (Int.ofNat 2) (iff (r25_0 x0_0 x0_1 x0_2 x0_3 x0_4 (wrapQ IntKind.i64 (Int.add x1_0 (Int.ofNat 0))) (wrapQ IntKind.i64 (Int.add x1_1 (wrapQ IntKind.i64 (Int.mul (Int.ofNat 0) x2_1)))) (wrapQ IntKind.i64 (Int.add x1_2 (Int.ofNat 0))) (wrapQ IntKind.i64 (Int.add x1_3 (Int.negSucc 0))) (wrapQ IntKind.i64 (Int.add x1_4 (Int.ofNat 0)))) (Int.ofNat 0) (Int.ofNat 36))))) (iff (eqQ x2_0 (Int.ofNat 6)) (iff (!eqQ (r13_0 x0_0 x0_1 x0_2 x0_3 x0_4 x1_0 x1_1 x1_2 x1_3 x1_4) (Int.ofNat 0)) (r13_0 x0_0 x0_1 x0_2 x0_3 x0_4 x1_0 x1_1 x1_2 x1_3 x1_4) (iff (!leQ (Int.ofNat 0) x2_1) (Int.ofNat 2) (iff (!leQ x2_1 (Int.ofNat 0)) (Int.ofNat 2) (iff (r25_0 x0_0 x0_1 x0_2 x0_3 x0_4 (wrapQ IntKind.i64 (Int.add x1_0 (Int.ofNat 0))) (wrapQ IntKind.i64 (Int.add x1_1 (wrapQ IntKind.i64 (Int.mul (Int.ofNat 0) x2_1)))) (wrapQ IntKind.i64 (Int.add x1_2 (Int.ofNat 0))) (wrapQ IntKind.i64 (Int.add x1_3 (Int.ofNat 0))) (wrapQ IntKind.i64 (Int.add x1_4 (Int.ofNat 1)))) (Int.ofNat 0) (Int.ofNat 18))))) (iff (eqQ x2_0 (Int.ofNat 7)) (iff (!eqQ (r13_0 x0_0 x0_1 x0_2 x0_3 x0_4 x1_0 x1_1 x1_2 x1_3 x1_4) (Int.ofNat 0)) (r13_0 x0_0 x0_1 x0_2 x0_3 x0_4 x1_0 x1_1 x1_2 x1_3 x1_4) (iff (!leQ (Int.ofNat 0) x2_1) (Int.ofNat 2) (iff (!leQ x2_1 (Int.ofNat 0)) (Int.ofNat 2) (iff (r25_0 x0_0 x0_1 x0_2 x0_3 x0_4 (wrapQ IntKind.i64 (Int.add x1_0 (Int.ofNat 0))) (wrapQ IntKind.i64 (Int.add x1_1 (wrapQ IntKind.i64 (Int.mul (Int.ofNat 0) x2_1)))) (wrapQ IntKind.i64 (Int.add x1_2 (Int.ofNat 0))) (wrapQ IntKind.i64 (Int.add x1_3 (Int.ofNat 0))) (wrapQ IntKind.i64 (Int.add x1_4 (Int.negSucc 0)))) (Int.ofNat 0) (Int.ofNat 36))))) (iff (!eqQ (r13_0 x0_0 x0_1 x0_2 x0_3 x0_4 x1_0 x1_1 x1_2 x1_3 x1_4) (Int.ofNat 0)) (r13_0 x0_0 x0_1 x0_2 x0_3 x0_4 x1_0 x1_1 x1_2 x1_3 x1_4) (iff (!leQ (Int.ofNat 1) x2_0) (Int.ofNat 2) (Int.ofNat 2)))))))))
noncomputable def v15 (x0_0 : Int) (x0_1 : Int) (x0_2 : Int) (x0_3 : Int) (x0_4 : Int) (x1_0 : Int) (x1_1 : Int) (x1_2 : Int) (x1_3 : Int) (x1_4 : Int) (x2_0 : Int) (x2_1 : Int) : Value := Value.tuple (Array.mk [Value.agg (Array.mk [Value.int IntKind.i64 (r15_0 x0_0 x0_1 x0_2 x0_3 x0_4 x1_0 x1_1 x1_2 x1_3 x1_4 x2_0 x2_1), Value.int IntKind.i64 (r15_1 x0_0 x0_1 x0_2 x0_3 x0_4 x1_0 x1_1 x1_2 x1_3 x1_4 x2_0 x2_1), Value.int IntKind.i64 (r15_2 x0_0 x0_1 x0_2 x0_3 x0_4 x1_0 x1_1 x1_2 x1_3 x1_4 x2_0 x2_1), Value.int IntKind.i64 (r15_3 x0_0 x0_1 x0_2 x0_3 x0_4 x1_0 x1_1 x1_2 x1_3 x1_4 x2_0 x2_1), Value.int IntKind.i64 (r15_4 x0_0 x0_1 x0_2 x0_3 x0_4 x1_0 x1_1 x1_2 x1_3 x1_4 x2_0 x2_1)]), Value.int IntKind.i64 (r15_5 x0_0 x0_1 x0_2 x0_3 x0_4 x1_0 x1_1 x1_2 x1_3 x1_4 x2_0 x2_1)])
noncomputable def s15 : SpecF := fun args σ => andThen2 (gCons args) fun a0 q0 => andThen2 (gCons q0) fun a1 q1 => andThen2 (gCons q1) fun a2 q2 => andThen (gNil q2) fun _ => andThen (asA a0) fun l0 => andThen2 (gCons l0) fun c0_0 q0_0 => andThen (gI IntKind.i64 c0_0) fun x0_0 => andThen2 (gCons q0_0) fun c0_1 q0_1 => andThen (gI IntKind.i64 c0_1) fun x0_1 => andThen2 (gCons q0_1) fun c0_2 q0_2 => andThen (gI IntKind.i64 c0_2) fun x0_2 => andThen2 (gCons q0_2) fun c0_3 q0_3 => andThen (gI IntKind.i64 c0_3) fun x0_3 => andThen2 (gCons q0_3) fun c0_4 q0_4 => andThen (gI IntKind.i64 c0_4) fun x0_4 => andThen (gNil q0_4) fun _ => andThen (asA a1) fun l1 => andThen2 (gCons l1) fun c1_0 q1_0 => andThen (gI IntKind.i64 c1_0) fun x1_0 => andThen2 (gCons q1_0) fun c1_1 q1_1 => andThen (gI IntKind.i64 c1_1) fun x1_1 => andThen2 (gCons q1_1) fun c1_2 q1_2 => andThen (gI IntKind.i64 c1_2) fun x1_2 => andThen2 (gCons q1_2) fun c1_3 q1_3 => andThen (gI IntKind.i64 c1_3) fun x1_3 => andThen2 (gCons q1_3) fun c1_4 q1_4 => andThen (gI IntKind.i64 c1_4) fun x1_4 => andThen (gNil q1_4) fun _ => andThen (asA a2) fun l2 => andThen2 (gCons l2) fun c2_0 q2_0 => andThen (gI IntKind.u8 c2_0) fun x2_0 => andThen2 (gCons q2_0) fun c2_1 q2_1 => andThen (gI IntKind.i64 c2_1) fun x2_1 => andThen (gNil q2_1) fun _ => iff (hasTabs tabs0 σ) (some (v15 x0_0 x0_1 x0_2 x0_3 x0_4 x1_0 x1_1 x1_2 x1_3 x1_4 x2_0 x2_1, σ)) none
theorem s15_sim : SpecSim Tryd.prog Tb.glob 15 s15 := by
  refine plain_tab Tb.glob tabs0 1 (call := callL [(13, s13), (25, s25), (27, s27), (28, s28)]) ⟨[], []⟩ mix Tb.tys (callL_ok (fun p hp => by
    simp only [List.mem_cons, List.not_mem_nil, or_false] at hp
    rcases hp with rfl | rfl | rfl | rfl
    · first | exact s13_sim | exact s13_sim.mono (fun g h => by cases h)
    · first | exact s25_sim | exact s25_sim.mono (fun g h => by cases h)
    · first | exact s27_sim | exact s27_sim.mono (fun g h => by cases h)
    · first | exact s28_sim | exact s28_sim.mono (fun g h => by cases h))) Tryd.func15 (by kernel_rfl) (by kernel_rfl) (by kernel_rfl) (by kernel_rfl) tabs0_mem fun args σ v σ' h => ?_
  obtain ⟨a0, q0, e0, h⟩ := andThen2_eq h
  obtain ⟨a1, q1, e1, h⟩ := andThen2_eq h
  obtain ⟨a2, q2, e2, h⟩ := andThen2_eq h
  obtain ⟨_, en, h⟩ := andThen_eq h
  obtain ⟨l0, ea0, h⟩ := andThen_eq h
  obtain ⟨c0_0, q0_0, e0_0, h⟩ := andThen2_eq h
  obtain ⟨x0_0, ex0_0, h⟩ := andThen_eq h
  obtain ⟨c0_1, q0_1, e0_1, h⟩ := andThen2_eq h
  obtain ⟨x0_1, ex0_1, h⟩ := andThen_eq h
  obtain ⟨c0_2, q0_2, e0_2, h⟩ := andThen2_eq h
  obtain ⟨x0_2, ex0_2, h⟩ := andThen_eq h
  obtain ⟨c0_3, q0_3, e0_3, h⟩ := andThen2_eq h
  obtain ⟨x0_3, ex0_3, h⟩ := andThen_eq h
  obtain ⟨c0_4, q0_4, e0_4, h⟩ := andThen2_eq h
  obtain ⟨x0_4, ex0_4, h⟩ := andThen_eq h
  obtain ⟨_, en0, h⟩ := andThen_eq h
  obtain ⟨l1, ea1, h⟩ := andThen_eq h
  obtain ⟨c1_0, q1_0, e1_0, h⟩ := andThen2_eq h
  obtain ⟨x1_0, ex1_0, h⟩ := andThen_eq h
  obtain ⟨c1_1, q1_1, e1_1, h⟩ := andThen2_eq h
  obtain ⟨x1_1, ex1_1, h⟩ := andThen_eq h
  obtain ⟨c1_2, q1_2, e1_2, h⟩ := andThen2_eq h
  obtain ⟨x1_2, ex1_2, h⟩ := andThen_eq h
  obtain ⟨c1_3, q1_3, e1_3, h⟩ := andThen2_eq h
  obtain ⟨x1_3, ex1_3, h⟩ := andThen_eq h
  obtain ⟨c1_4, q1_4, e1_4, h⟩ := andThen2_eq h
  obtain ⟨x1_4, ex1_4, h⟩ := andThen_eq h
  obtain ⟨_, en1, h⟩ := andThen_eq h
  obtain ⟨l2, ea2, h⟩ := andThen_eq h
  obtain ⟨c2_0, q2_0, e2_0, h⟩ := andThen2_eq h
  obtain ⟨x2_0, ex2_0, h⟩ := andThen_eq h
  obtain ⟨c2_1, q2_1, e2_1, h⟩ := andThen2_eq h
  obtain ⟨x2_1, ex2_1, h⟩ := andThen_eq h
  obtain ⟨_, en2, h⟩ := andThen_eq h
  obtain ⟨ht, h⟩ := iff_some h
  cases h
  obtain rfl := gNil_eq en
  obtain rfl := gNil_eq en0
  obtain rfl := gCons_eq e0_4
  obtain rfl := gI_eq ex0_4
  obtain rfl := gCons_eq e0_3
  obtain rfl := gI_eq ex0_3
  obtain rfl := gCons_eq e0_2
  obtain rfl := gI_eq ex0_2
  obtain rfl := gCons_eq e0_1
  obtain rfl := gI_eq ex0_1
  obtain rfl := gCons_eq e0_0
  obtain rfl := gI_eq ex0_0
  obtain rfl := asA_eq ea0
  obtain rfl := gNil_eq en1
  obtain rfl := gCons_eq e1_4
  obtain rfl := gI_eq ex1_4
  obtain rfl := gCons_eq e1_3
  obtain rfl := gI_eq ex1_3
  obtain rfl := gCons_eq e1_2
  obtain rfl := gI_eq ex1_2
  obtain rfl := gCons_eq e1_1
  obtain rfl := gI_eq ex1_1
  obtain rfl := gCons_eq e1_0
  obtain rfl := gI_eq ex1_0
  obtain rfl := asA_eq ea1
  obtain rfl := gNil_eq en2
  obtain rfl := gCons_eq e2_1
  obtain rfl := gI_eq ex2_1
  obtain rfl := gCons_eq e2_0
  obtain rfl := gI_eq ex2_0
  obtain rfl := asA_eq ea2
  obtain rfl := gCons_eq e2
  obtain rfl := gCons_eq e1
  obtain rfl := gCons_eq e0
  refine ⟨rfl, ht, fun ι => .cons (VA.bareA (by rfl)) (.cons (VA.bareA (by rfl)) (.cons (VA.bareA (by rfl)) (.nil))), VA.bareR (by rfl), fun L => ?_⟩
  by_cases hc1 : x2_0 = Int.ofNat 1
  · subst hc1
    have hk1 : eqQ (Int.ofNat 1) (Int.ofNat 1) = true := by kernel_rfl
    refine ⟨(.split .done (.lit (.lit (.lit (.lit (.split (.lit (.lit (.lit (.lit (.split .done (.split .done (.lit .done))))))) (.lit (.lit (.lit (.lit (.lit .done))))))))))), of_eq (b := (fun R : Value → Prop => ((!eqQ (r13_0 x0_0 x0_1 x0_2 x0_3 x0_4 x1_0 x1_1 x1_2 x1_3 x1_4) (Int.ofNat 0)) = true → R (Value.tuple (Array.mk [Value.agg (Array.mk [Value.int IntKind.i64 (Int.ofNat 0), Value.int IntKind.i64 (Int.ofNat 0), Value.int IntKind.i64 (Int.ofNat 0), Value.int IntKind.i64 (Int.ofNat 0), Value.int IntKind.i64 (Int.ofNat 0)]), Value.int IntKind.i64 (r13_0 x0_0 x0_1 x0_2 x0_3 x0_4 x1_0 x1_1 x1_2 x1_3 x1_4)]))) ∧ ((!eqQ (r13_0 x0_0 x0_1 x0_2 x0_3 x0_4 x1_0 x1_1 x1_2 x1_3 x1_4) (Int.ofNat 0)) = false → ((!leQ (Int.ofNat 0) x2_1) = false → ((!leQ x2_1 (Int.ofNat 2000)) = true → R (Value.tuple (Array.mk [Value.agg (Array.mk [Value.int IntKind.i64 (Int.ofNat 0), Value.int IntKind.i64 (Int.ofNat 0), Value.int IntKind.i64 (Int.ofNat 0), Value.int IntKind.i64 (Int.ofNat 0), Value.int IntKind.i64 (Int.ofNat 0)]), Value.int IntKind.i64 (Int.ofNat 2)]))) ∧ ((!leQ x2_1 (Int.ofNat 2000)) = false → (r25_0 x0_0 x0_1 x0_2 x0_3 x0_4 (wrapQ IntKind.i64 (Int.add x1_0 (Int.ofNat 1))) (wrapQ IntKind.i64 (Int.add x1_1 (wrapQ IntKind.i64 (Int.mul (Int.ofNat 1) x2_1)))) (wrapQ IntKind.i64 (Int.add x1_2 (Int.ofNat 0))) (wrapQ IntKind.i64 (Int.add x1_3 (Int.ofNat 0))) (wrapQ IntKind.i64 (Int.add x1_4 (Int.ofNat 0))) = true → R (Value.tuple (Array.mk [Value.agg (Array.mk [Value.int IntKind.i64 (wrapQ IntKind.i64 (Int.add x1_0 (Int.ofNat 1))), Value.int IntKind.i64 (wrapQ IntKind.i64 (Int.add x1_1 (wrapQ IntKind.i64 (Int.mul (Int.ofNat 1) x2_1)))), Value.int IntKind.i64 (wrapQ IntKind.i64 (Int.add x1_2 (Int.ofNat 0))), Value.int IntKind.i64 (wrapQ IntKind.i64 (Int.add x1_3 (Int.ofNat 0))), Value.int IntKind.i64 (wrapQ IntKind.i64 (Int.add x1_4 (Int.ofNat 0)))]), Value.int IntKind.i64 (Int.ofNat 0)]))) ∧ (r25_0 x0_0 x0_1 x0_2 x0_3 x0_4 (wrapQ IntKind.i64 (Int.add x1_0 (Int.ofNat 1))) (wrapQ IntKind.i64 (Int.add x1_1 (wrapQ IntKind.i64 (Int.mul (Int.ofNat 1) x2_1)))) (wrapQ IntKind.i64 (Int.add x1_2 (Int.ofNat 0))) (wrapQ IntKind.i64 (Int.add x1_3 (Int.ofNat 0))) (wrapQ IntKind.i64 (Int.add x1_4 (Int.ofNat 0))) = false → R (Value.tuple (Array.mk [Value.agg (Array.mk [Value.int IntKind.i64 (Int.ofNat 0), Value.int IntKind.i64 (Int.ofNat 0), Value.int IntKind.i64 (Int.ofNat 0), Value.int IntKind.i64 (Int.ofNat 0), Value.int IntKind.i64 (Int.ofNat 0)]), Value.int IntKind.i64 (Int.ofNat 18)]))))) ∧ ((!leQ (Int.ofNat 0) x2_1) = true → R (Value.tuple (Array.mk [Value.agg (Array.mk [Value.int IntKind.i64 (Int.ofNat 0), Value.int IntKind.i64 (Int.ofNat 0), Value.int IntKind.i64 (Int.ofNat 0), Value.int IntKind.i64 (Int.ofNat 0), Value.int IntKind.i64 (Int.ofNat 0)]), Value.int IntKind.i64 (Int.ofNat 2)]))))) (fun v => v = v15 x0_0 x0_1 x0_2 x0_3 x0_4 x1_0 x1_1 x1_2 x1_3 x1_4 (Int.ofNat 1) x2_1)) (by kernel_rfl) ?_⟩
    dsimp only
    repeat' (first | apply And.intro | intro)
    all_goals first | (simp only [v15, r15_0, r15_1, r15_2, r15_3, r15_4, r15_5, *, Abs.iff_true, Abs.iff_false]; done) | (simp only [Int.ofNat_eq_natCast, leQ_eq, eqQ_eq, Bool.not_eq_false', Bool.not_eq_true', decide_eq_true_eq, decide_eq_false_iff_not, beq_eq_false_iff_ne, ne_eq] at *; omega) | (simp only [r13_0, r25_0, v27, r28_0, Abs.iff_eq, Int.ofNat_eq_natCast, leQ_eq, eqQ_eq] at *; grind)
  by_cases hc2 : x2_0 = Int.ofNat 2
  · subst hc2
    have hk1 : eqQ (Int.ofNat 2) (Int.ofNat 1) = false := by kernel_rfl
    have hk2 : eqQ (Int.ofNat 2) (Int.ofNat 2) = true := by kernel_rfl
    refine ⟨(.split .done (.lit (.lit (.lit (.lit (.split (.lit (.lit (.lit (.lit (.split .done (.split .done (.lit .done))))))) (.lit (.lit (.lit (.lit (.lit .done))))))))))), of_eq (b := (fun R : Value → Prop => ((!eqQ (r13_0 x0_0 x0_1 x0_2 x0_3 x0_4 x1_0 x1_1 x1_2 x1_3 x1_4) (Int.ofNat 0)) = true → R (Value.tuple (Array.mk [Value.agg (Array.mk [Value.int IntKind.i64 (Int.ofNat 0), Value.int IntKind.i64 (Int.ofNat 0), Value.int IntKind.i64 (Int.ofNat 0), Value.int IntKind.i64 (Int.ofNat 0), Value.int IntKind.i64 (Int.ofNat 0)]), Value.int IntKind.i64 (r13_0 x0_0 x0_1 x0_2 x0_3 x0_4 x1_0 x1_1 x1_2 x1_3 x1_4)]))) ∧ ((!eqQ (r13_0 x0_0 x0_1 x0_2 x0_3 x0_4 x1_0 x1_1 x1_2 x1_3 x1_4) (Int.ofNat 0)) = false → ((!leQ (Int.ofNat 0) x2_1) = false → ((!leQ x2_1 (Int.ofNat 2000)) = true → R (Value.tuple (Array.mk [Value.agg (Array.mk [Value.int IntKind.i64 (Int.ofNat 0), Value.int IntKind.i64 (Int.ofNat 0), Value.int IntKind.i64 (Int.ofNat 0), Value.int IntKind.i64 (Int.ofNat 0), Value.int IntKind.i64 (Int.ofNat 0)]), Value.int IntKind.i64 (Int.ofNat 2)]))) ∧ ((!leQ x2_1 (Int.ofNat 2000)) = false → (r25_0 x0_0 x0_1 x0_2 x0_3 x0_4 (wrapQ IntKind.i64 (Int.add x1_0 (Int.negSucc 0))) (wrapQ IntKind.i64 (Int.add x1_1 (wrapQ IntKind.i64 (Int.mul (Int.negSucc 0) x2_1)))) (wrapQ IntKind.i64 (Int.add x1_2 (Int.ofNat 0))) (wrapQ IntKind.i64 (Int.add x1_3 (Int.ofNat 0))) (wrapQ IntKind.i64 (Int.add x1_4 (Int.ofNat 0))) = true → R (Value.tuple (Array.mk [Value.agg (Array.mk [Value.int IntKind.i64 (wrapQ IntKind.i64 (Int.add x1_0 (Int.negSucc 0))), Value.int IntKind.i64 (wrapQ IntKind.i64 (Int.add x1_1 (wrapQ IntKind.i64 (Int.mul (Int.negSucc 0) x2_1)))), Value.int IntKind.i64 (wrapQ IntKind.i64 (Int.add x1_2 (Int.ofNat 0))), Value.int IntKind.i64 (wrapQ IntKind.i64 (Int.add x1_3 (Int.ofNat 0))), Value.int IntKind.i64 (wrapQ IntKind.i64 (Int.add x1_4 (Int.ofNat 0)))]), Value.int IntKind.i64 (Int.ofNat 0)]))) ∧ (r25_0 x0_0 x0_1 x0_2 x0_3 x0_4 (wrapQ IntKind.i64 (Int.add x1_0 (Int.negSucc 0))) (wrapQ IntKind.i64 (Int.add x1_1 (wrapQ IntKind.i64 (Int.mul (Int.negSucc 0) x2_1)))) (wrapQ IntKind.i64 (Int.add x1_2 (Int.ofNat 0))) (wrapQ IntKind.i64 (Int.add x1_3 (Int.ofNat 0))) (wrapQ IntKind.i64 (Int.add x1_4 (Int.ofNat 0))) = false → R (Value.tuple (Array.mk [Value.agg (Array.mk [Value.int IntKind.i64 (Int.ofNat 0), Value.int IntKind.i64 (Int.ofNat 0), Value.int IntKind.i64 (Int.ofNat 0), Value.int IntKind.i64 (Int.ofNat 0), Value.int IntKind.i64 (Int.ofNat 0)]), Value.int IntKind.i64 (Int.ofNat 36)]))))) ∧ ((!leQ (Int.ofNat 0) x2_1) = true → R (Value.tuple (Array.mk [Value.agg (Array.mk [Value.int IntKind.i64 (Int.ofNat 0), Value.int IntKind.i64 (Int.ofNat 0), Value.int IntKind.i64 (Int.ofNat 0), Value.int IntKind.i64 (Int.ofNat 0), Value.int IntKind.i64 (Int.ofNat 0)]), Value.int IntKind.i64 (Int.ofNat 2)]))))) (fun v => v = v15 x0_0 x0_1 x0_2 x0_3 x0_4 x1_0 x1_1 x1_2 x1_3 x1_4 (Int.ofNat 2) x2_1)) (by kernel_rfl) ?_⟩
    dsimp only
    repeat' (first | apply And.intro | intro)
    all_goals first | (simp only [v15, r15_0, r15_1, r15_2, r15_3, r15_4, r15_5, *, Abs.iff_true, Abs.iff_false]; done) | (simp only [Int.ofNat_eq_natCast, leQ_eq, eqQ_eq, Bool.not_eq_false', Bool.not_eq_true', decide_eq_true_eq, decide_eq_false_iff_not, beq_eq_false_iff_ne, ne_eq] at *; omega) | (simp only [r13_0, r25_0, v27, r28_0, Abs.iff_eq, Int.ofNat_eq_natCast, leQ_eq, eqQ_eq] at *; grind)
  by_cases hc3 : x2_0 = Int.ofNat 3
  · subst hc3
    have hk1 : eqQ (Int.ofNat 3) (Int.ofNat 1) = false := by kernel_rfl
    have hk2 : eqQ (Int.ofNat 3) (Int.ofNat 2) = false := by kernel_rfl
    have hk3 : eqQ (Int.ofNat 3) (Int.ofNat 3) = true := by kernel_rfl
    refine ⟨(.split .done (.lit (.lit (.lit (.lit (.split (.lit (.lit (.lit (.lit (.split .done (.split .done (.lit .done))))))) (.lit (.lit (.lit (.lit (.lit .done))))))))))), of_eq (b := (fun R : Value → Prop => ((!eqQ (r13_0 x0_0 x0_1 x0_2 x0_3 x0_4 x1_0 x1_1 x1_2 x1_3 x1_4) (Int.ofNat 0)) = true → R (Value.tuple (Array.mk [Value.agg (Array.mk [Value.int IntKind.i64 (Int.ofNat 0), Value.int IntKind.i64 (Int.ofNat 0), Value.int IntKind.i64 (Int.ofNat 0), Value.int IntKind.i64 (Int.ofNat 0), Value.int IntKind.i64 (Int.ofNat 0)]), Value.int IntKind.i64 (r13_0 x0_0 x0_1 x0_2 x0_3 x0_4 x1_0 x1_1 x1_2 x1_3 x1_4)]))) ∧ ((!eqQ (r13_0 x0_0 x0_1 x0_2 x0_3 x0_4 x1_0 x1_1 x1_2 x1_3 x1_4) (Int.ofNat 0)) = false → ((!leQ (Int.ofNat 0) x2_1) = false → ((!leQ x2_1 (Int.ofNat 0)) = true → R (Value.tuple (Array.mk [Value.agg (Array.mk [Value.int IntKind.i64 (Int.ofNat 0), Value.int IntKind.i64 (Int.ofNat 0), Value.int IntKind.i64 (Int.ofNat 0), Value.int IntKind.i64 (Int.ofNat 0), Value.int IntKind.i64 (Int.ofNat 0)]), Value.int IntKind.i64 (Int.ofNat 2)]))) ∧ ((!leQ x2_1 (Int.ofNat 0)) = false → (r25_0 x0_0 x0_1 x0_2 x0_3 x0_4 (wrapQ IntKind.i64 (Int.add x1_0 (Int.ofNat 0))) (wrapQ IntKind.i64 (Int.add x1_1 (wrapQ IntKind.i64 (Int.mul (Int.ofNat 0) x2_1)))) (wrapQ IntKind.i64 (Int.add x1_2 (Int.ofNat 1))) (wrapQ IntKind.i64 (Int.add x1_3 (Int.ofNat 0))) (wrapQ IntKind.i64 (Int.add x1_4 (Int.ofNat 0))) = true → R (Value.tuple (Array.mk [Value.agg (Array.mk [Value.int IntKind.i64 (wrapQ IntKind.i64 (Int.add x1_0 (Int.ofNat 0))), Value.int IntKind.i64 (wrapQ IntKind.i64 (Int.add x1_1 (wrapQ IntKind.i64 (Int.mul (Int.ofNat 0) x2_1)))), Value.int IntKind.i64 (wrapQ IntKind.i64 (Int.add x1_2 (Int.ofNat 1))), Value.int IntKind.i64 (wrapQ IntKind.i64 (Int.add x1_3 (Int.ofNat 0))), Value.int IntKind.i64 (wrapQ IntKind.i64 (Int.add x1_4 (Int.ofNat 0)))]), Value.int IntKind.i64 (Int.ofNat 0)]))) ∧ (r25_0 x0_0 x0_1 x0_2 x0_3 x0_4 (wrapQ IntKind.i64 (Int.add x1_0 (Int.ofNat 0))) (wrapQ IntKind.i64 (Int.add x1_1 (wrapQ IntKind.i64 (Int.mul (Int.ofNat 0) x2_1)))) (wrapQ IntKind.i64 (Int.add x1_2 (Int.ofNat 1))) (wrapQ IntKind.i64 (Int.add x1_3 (Int.ofNat 0))) (wrapQ IntKind.i64 (Int.add x1_4 (Int.ofNat 0))) = false → R (Value.tuple (Array.mk [Value.agg (Array.mk [Value.int IntKind.i64 (Int.ofNat 0), Value.int IntKind.i64 (Int.ofNat 0), Value.int IntKind.i64 (Int.ofNat 0), Value.int IntKind.i64 (Int.ofNat 0), Value.int IntKind.i64 (Int.ofNat 0)]), Value.int IntKind.i64 (Int.ofNat 18)]))))) ∧ ((!leQ (Int.ofNat 0) x2_1) = true → R (Value.tuple (Array.mk [Value.agg (Array.mk [Value.int IntKind.i64 (Int.ofNat 0), Value.int IntKind.i64 (Int.ofNat 0), Value.int IntKind.i64 (Int.ofNat 0), Value.int IntKind.i64 (Int.ofNat 0), Value.int IntKind.i64 (Int.ofNat 0)]), Value.int IntKind.i64 (Int.ofNat 2)]))))) (fun v => v = v15 x0_0 x0_1 x0_2 x0_3 x0_4 x1_0 x1_1 x1_2 x1_3 x1_4 (Int.ofNat 3) x2_1)) (by kernel_rfl) ?_⟩
    dsimp only
    repeat' (first | apply And.intro | intro)
    all_goals first | (simp only [v15, r15_0, r15_1, r15_2, r15_3, r15_4, r15_5, *, Abs.iff_true, Abs.iff_false]; done) | (simp only [Int.ofNat_eq_natCast, leQ_eq, eqQ_eq, Bool.not_eq_false', Bool.not_eq_true', decide_eq_true_eq, decide_eq_false_iff_not, beq_eq_false_iff_ne, ne_eq] at *; omega) | (simp only [r13_0, r25_0, v27, r28_0, Abs.iff_eq, Int.ofNat_eq_natCast, leQ_eq, eqQ_eq] at *; grind)
  by_cases hc4 : x2_0 = Int.ofNat 4
  · subst hc4
    have hk1 : eqQ (Int.ofNat 4) (Int.ofNat 1) = false := by kernel_rfl
    have hk2 : eqQ (Int.ofNat 4) (Int.ofNat 2) = false := by kernel_rfl
    have hk3 : eqQ (Int.ofNat 4) (Int.ofNat 3) = false := by kernel_rfl
    have hk4 : eqQ (Int.ofNat 4) (Int.ofNat 4) = true := by kernel_rfl
    refine ⟨(.split .done (.lit (.lit (.lit (.lit (.split (.lit (.lit (.lit (.lit (.split .done (.split .done (.lit .done))))))) (.lit (.lit (.lit (.lit (.lit .done))))))))))), of_eq (b := (fun R : Value → Prop => ((!eqQ (r13_0 x0_0 x0_1 x0_2 x0_3 x0_4 x1_0 x1_1 x1_2 x1_3 x1_4) (Int.ofNat 0)) = true → R (Value.tuple (Array.mk [Value.agg (Array.mk [Value.int IntKind.i64 (Int.ofNat 0), Value.int IntKind.i64 (Int.ofNat 0), Value.int IntKind.i64 (Int.ofNat 0), Value.int IntKind.i64 (Int.ofNat 0), Value.int IntKind.i64 (Int.ofNat 0)]), Value.int IntKind.i64 (r13_0 x0_0 x0_1 x0_2 x0_3 x0_4 x1_0 x1_1 x1_2 x1_3 x1_4)]))) ∧ ((!eqQ (r13_0 x0_0 x0_1 x0_2 x0_3 x0_4 x1_0 x1_1 x1_2 x1_3 x1_4) (Int.ofNat 0)) = false → ((!leQ (Int.ofNat 1) x2_1) = false → ((!leQ x2_1 (Int.ofNat 9)) = true → R (Value.tuple (Array.mk [Value.agg (Array.mk [Value.int IntKind.i64 (Int.ofNat 0), Value.int IntKind.i64 (Int.ofNat 0), Value.int IntKind.i64 (Int.ofNat 0), Value.int IntKind.i64 (Int.ofNat 0), Value.int IntKind.i64 (Int.ofNat 0)]), Value.int IntKind.i64 (Int.ofNat 2)]))) ∧ ((!leQ x2_1 (Int.ofNat 9)) = false → (r25_0 x0_0 x0_1 x0_2 x0_3 x0_4 (wrapQ IntKind.i64 (Int.add x1_0 (Int.ofNat 0))) (wrapQ IntKind.i64 (Int.add x1_1 (wrapQ IntKind.i64 (Int.mul (Int.ofNat 0) x2_1)))) (wrapQ IntKind.i64 (Int.add x1_2 (Int.negSucc 0))) (iff (eqQ x2_1 (Int.ofNat 6)) (wrapQ IntKind.i64 (Int.add (wrapQ IntKind.i64 (Int.add x1_3 (Int.ofNat 0))) (Int.ofNat 1))) (wrapQ IntKind.i64 (Int.add x1_3 (Int.ofNat 0)))) (wrapQ IntKind.i64 (Int.add x1_4 (Int.ofNat 0))) = true → R (Value.tuple (Array.mk [Value.agg (Array.mk [Value.int IntKind.i64 (wrapQ IntKind.i64 (Int.add x1_0 (Int.ofNat 0))), Value.int IntKind.i64 (wrapQ IntKind.i64 (Int.add x1_1 (wrapQ IntKind.i64 (Int.mul (Int.ofNat 0) x2_1)))), Value.int IntKind.i64 (wrapQ IntKind.i64 (Int.add x1_2 (Int.negSucc 0))), Value.int IntKind.i64 (iff (eqQ x2_1 (Int.ofNat 6)) (wrapQ IntKind.i64 (Int.add (wrapQ IntKind.i64 (Int.add x1_3 (Int.ofNat 0))) (Int.ofNat 1))) (wrapQ IntKind.i64 (Int.add x1_3 (Int.ofNat 0)))), Value.int IntKind.i64 (wrapQ IntKind.i64 (Int.add x1_4 (Int.ofNat 0)))]), Value.int IntKind.i64 (Int.ofNat 0)]))) ∧ (r25_0 x0_0 x0_1 x0_2 x0_3 x0_4 (wrapQ IntKind.i64 (Int.add x1_0 (Int.ofNat 0))) (wrapQ IntKind.i64 (Int.add x1_1 (wrapQ IntKind.i64 (Int.mul (Int.ofNat 0) x2_1)))) (wrapQ IntKind.i64 (Int.add x1_2 (Int.negSucc 0))) (iff (eqQ x2_1 (Int.ofNat 6)) (wrapQ IntKind.i64 (Int.add (wrapQ IntKind.i64 (Int.add x1_3 (Int.ofNat 0))) (Int.ofNat 1))) (wrapQ IntKind.i64 (Int.add x1_3 (Int.ofNat 0)))) (wrapQ IntKind.i64 (Int.add x1_4 (Int.ofNat 0))) = false → R (Value.tuple (Array.mk [Value.agg (Array.mk [Value.int IntKind.i64 (Int.ofNat 0), Value.int IntKind.i64 (Int.ofNat 0), Value.int IntKind.i64 (Int.ofNat 0), Value.int IntKind.i64 (Int.ofNat 0), Value.int IntKind.i64 (Int.ofNat 0)]), Value.int IntKind.i64 (Int.ofNat 36)]))))) ∧ ((!leQ (Int.ofNat 1) x2_1) = true → R (Value.tuple (Array.mk [Value.agg (Array.mk [Value.int IntKind.i64 (Int.ofNat 0), Value.int IntKind.i64 (Int.ofNat 0), Value.int IntKind.i64 (Int.ofNat 0), Value.int IntKind.i64 (Int.ofNat 0), Value.int IntKind.i64 (Int.ofNat 0)]), Value.int IntKind.i64 (Int.ofNat 2)]))))) (fun v => v = v15 x0_0 x0_1 x0_2 x0_3 x0_4 x1_0 x1_1 x1_2 x1_3 x1_4 (Int.ofNat 4) x2_1)) (by kernel_rfl) ?_⟩
    dsimp only
    repeat' (first | apply And.intro | intro)
    all_goals first | (simp only [v15, r15_0, r15_1, r15_2, r15_3, r15_4, r15_5, *, Abs.iff_true, Abs.iff_false]; done) | (simp only [Int.ofNat_eq_natCast, leQ_eq, eqQ_eq, Bool.not_eq_false', Bool.not_eq_true', decide_eq_true_eq, decide_eq_false_iff_not, beq_eq_false_iff_ne, ne_eq] at *; omega) | (simp only [r13_0, r25_0, v27, r28_0, Abs.iff_eq, Int.ofNat_eq_natCast, leQ_eq, eqQ_eq] at *; grind)
  by_cases hc5 : x2_0 = Int.ofNat 5
  · subst hc5
    have hk1 : eqQ (Int.ofNat 5) (Int.ofNat 1) = false := by kernel_rfl
    have hk2 : eqQ (Int.ofNat 5) (Int.ofNat 2) = false := by kernel_rfl
    have hk3 : eqQ (Int.ofNat 5) (Int.ofNat 3) = false := by kernel_rfl
    have hk4 : eqQ (Int.ofNat 5) (Int.ofNat 4) = false := by kernel_rfl
    have hk5 : eqQ (Int.ofNat 5) (Int.ofNat 5) = true := by kernel_rfl
    refine ⟨(.split .done (.lit (.lit (.lit (.lit (.split (.lit (.lit (.lit (.lit (.split .done (.split .done (.lit .done))))))) (.lit (.lit (.lit (.lit (.lit .done))))))))))), of_eq (b := (fun R : Value → Prop => ((!eqQ (r13_0 x0_0 x0_1 x0_2 x0_3 x0_4 x1_0 x1_1 x1_2 x1_3 x1_4) (Int.ofNat 0)) = true → R (Value.tuple (Array.mk [Value.agg (Array.mk [Value.int IntKind.i64 (Int.ofNat 0), Value.int IntKind.i64 (Int.ofNat 0), Value.int IntKind.i64 (Int.ofNat 0), Value.int IntKind.i64 (Int.ofNat 0), Value.int IntKind.i64 (Int.ofNat 0)]), Value.int IntKind.i64 (r13_0 x0_0 x0_1 x0_2 x0_3 x0_4 x1_0 x1_1 x1_2 x1_3 x1_4)]))) ∧ ((!eqQ (r13_0 x0_0 x0_1 x0_2 x0_3 x0_4 x1_0 x1_1 x1_2 x1_3 x1_4) (Int.ofNat 0)) = false → ((!leQ (Int.ofNat 0) x2_1) = false → ((!leQ x2_1 (Int.ofNat 0)) = true → R (Value.tuple (Array.mk [Value.agg (Array.mk [Value.int IntKind.i64 (Int.ofNat 0), Value.int IntKind.i64 (Int.ofNat 0), Value.int IntKind.i64 (Int.ofNat 0), Value.int IntKind.i64 (Int.ofNat 0), Value.int IntKind.i64 (Int.ofNat 0)]), Value.int IntKind.i64 (Int.ofNat 2)]))) ∧ ((!leQ x2_1 (Int.ofNat 0)) = false → (r25_0 x0_0 x0_1 x0_2 x0_3 x0_4 (wrapQ IntKind.i64 (Int.add x1_0 (Int.ofNat 0))) (wrapQ IntKind.i64 (Int.add x1_1 (wrapQ IntKind.i64 (Int.mul (Int.ofNat 0) x2_1)))) (wrapQ IntKind.i64 (Int.add x1_2 (Int.ofNat 0))) (wrapQ IntKind.i64 (Int.add x1_3 (Int.negSucc 0))) (wrapQ IntKind.i64 (Int.add x1_4 (Int.ofNat 0))) = true → R (Value.tuple (Array.mk [Value.agg (Array.mk [Value.int IntKind.i64 (wrapQ IntKind.i64 (Int.add x1_0 (Int.ofNat 0))), Value.int IntKind.i64 (wrapQ IntKind.i64 (Int.add x1_1 (wrapQ IntKind.i64 (Int.mul (Int.ofNat 0) x2_1)))), Value.int IntKind.i64 (wrapQ IntKind.i64 (Int.add x1_2 (Int.ofNat 0))), Value.int IntKind.i64 (wrapQ IntKind.i64 (Int.add x1_3 (Int.negSucc 0))), Value.int IntKind.i64 (wrapQ IntKind.i64 (Int.add x1_4 (Int.ofNat 0)))]), Value.int IntKind.i64 (Int.ofNat 0)]))) ∧ (r25_0 x0_0 x0_1 x0_2 x0_3 x0_4 (wrapQ IntKind.i64 (Int.add x1_0 (Int.ofNat 0))) (wrapQ IntKind.i64 (Int.add x1_1 (wrapQ IntKind.i64 (Int.mul (Int.ofNat 0) x2_1)))) (wrapQ IntKind.i64 (Int.add x1_2 (Int.ofNat 0))) (wrapQ IntKind.i64 (Int.add x1_3 (Int.negSucc 0))) (wrapQ IntKind.i64 (Int.add x1_4 (Int.ofNat 0))) = false → R (Value.tuple (Array.mk [Value.agg (Array.mk [Value.int IntKind.i64 (Int.ofNat 0), Value.int IntKind.i64 (Int.ofNat 0), Value.int IntKind.i64 (Int.ofNat 0), Value.int IntKind.i64 (Int.ofNat 0), Value.int IntKind.i64 (Int.ofNat 0)]), Value.int IntKind.i64 (Int.ofNat 36)]))))) ∧ ((!leQ (Int.ofNat 0) x2_1) = true → R (Value.tuple (Array.mk [Value.agg (Array.mk [Value.int IntKind.i64 (Int.ofNat 0), Value.int IntKind.i64 (Int.ofNat 0), Value.int IntKind.i64 (Int.ofNat 0), Value.int IntKind.i64 (Int.ofNat 0), Value.int IntKind.i64 (Int.ofNat 0)]), Value.int IntKind.i64 (Int.ofNat 2)]))))) (fun v => v = v15 x0_0 x0_1 x0_2 x0_3 x0_4 x1_0 x1_1 x1_2 x1_3 x1_4 (Int.ofNat 5) x2_1)) (by kernel_rfl) ?_⟩
    dsimp only
    repeat' (first | apply And.intro | intro)
    all_goals first | (simp only [v15, r15_0, r15_1, r15_2, r15_3, r15_4, r15_5, *, Abs.iff_true, Abs.iff_false]; done) | (simp only [Int.ofNat_eq_natCast, leQ_eq, eqQ_eq, Bool.not_eq_false', Bool.not_eq_true', decide_eq_true_eq, decide_eq_false_iff_not, beq_eq_false_iff_ne, ne_eq] at *; omega) | (simp only [r13_0, r25_0, v27, r28_0, Abs.iff_eq, Int.ofNat_eq_natCast, leQ_eq, eqQ_eq] at *; grind)
  by_cases hc6 : x2_0 = Int.ofNat 6
  · subst hc6
    have hk1 : eqQ (Int.ofNat 6) (Int.ofNat 1) = false := by kernel_rfl
    have hk2 : eqQ (Int.ofNat 6) (Int.ofNat 2) = false := by kernel_rfl
    have hk3 : eqQ (Int.ofNat 6) (Int.ofNat 3) = false := by kernel_rfl
    have hk4 : eqQ (Int.ofNat 6) (Int.ofNat 4) = false := by kernel_rfl
    have hk5 : eqQ (Int.ofNat 6) (Int.ofNat 5) = false := by kernel_rfl
    have hk6 : eqQ (Int.ofNat 6) (Int.ofNat 6) = true := by kernel_rfl
    refine ⟨(.split .done (.lit (.lit (.lit (.lit (.split (.lit (.lit (.lit (.lit (.split .done (.split .done (.lit .done))))))) (.lit (.lit (.lit (.lit (.lit .done))))))))))), of_eq (b := (fun R : Value → Prop => ((!eqQ (r13_0 x0_0 x0_1 x0_2 x0_3 x0_4 x1_0 x1_1 x1_2 x1_3 x1_4) (Int.ofNat 0)) = true → R (Value.tuple (Array.mk [Value.agg (Array.mk [Value.int IntKind.i64 (Int.ofNat 0), Value.int IntKind.i64 (Int.ofNat 0), Value.int IntKind.i64 (Int.ofNat 0), Value.int IntKind.i64 (Int.ofNat 0), Value.int IntKind.i64 (Int.ofNat 0)]), Value.int IntKind.i64 (r13_0 x0_0 x0_1 x0_2 x0_3 x0_4 x1_0 x1_1 x1_2 x1_3 x1_4)]))) ∧ ((!eqQ (r13_0 x0_0 x0_1 x0_2 x0_3 x0_4 x1_0 x1_1 x1_2 x1_3 x1_4) (Int.ofNat 0)) = false → ((!leQ (Int.ofNat 0) x2_1) = false → ((!leQ x2_1 (Int.ofNat 0)) = true → R (Value.tuple (Array.mk [Value.agg (Array.mk [Value.int IntKind.i64 (Int.ofNat 0), Value.int IntKind.i64 (Int.ofNat 0), Value.int IntKind.i64 (Int.ofNat 0), Value.int IntKind.i64 (Int.ofNat 0), Value.int IntKind.i64 (Int.ofNat 0)]), Value.int IntKind.i64 (Int.ofNat 2)]))) ∧ ((!leQ x2_1 (Int.ofNat 0)) = false → (r25_0 x0_0 x0_1 x0_2 x0_3 x0_4 (wrapQ IntKind.i64 (Int.add x1_0 (Int.ofNat 0))) (wrapQ IntKind.i64 (Int.add x1_1 (wrapQ IntKind.i64 (Int.mul (Int.ofNat 0) x2_1)))) (wrapQ IntKind.i64 (Int.add x1_2 (Int.ofNat 0))) (wrapQ IntKind.i64 (Int.add x1_3 (Int.ofNat 0))) (wrapQ IntKind.i64 (Int.add x1_4 (Int.ofNat 1))) = true → R (Value.tuple (Array.mk [Value.agg (Array.mk [Value.int IntKind.i64 (wrapQ IntKind.i64 (Int.add x1_0 (Int.ofNat 0))), Value.int IntKind.i64 (wrapQ IntKind.i64 (Int.add x1_1 (wrapQ IntKind.i64 (Int.mul (Int.ofNat 0) x2_1)))), Value.int IntKind.i64 (wrapQ IntKind.i64 (Int.add x1_2 (Int.ofNat 0))), Value.int IntKind.i64 (wrapQ IntKind.i64 (Int.add x1_3 (Int.ofNat 0))), Value.int IntKind.i64 (wrapQ IntKind.i64 (Int.add x1_4 (Int.ofNat 1)))]), Value.int IntKind.i64 (Int.ofNat 0)]))) ∧ (r25_0 x0_0 x0_1 x0_2 x0_3 x0_4 (wrapQ IntKind.i64 (Int.add x1_0 (Int.ofNat 0))) (wrapQ IntKind.i64 (Int.add x1_1 (wrapQ IntKind.i64 (Int.mul (Int.ofNat 0) x2_1)))) (wrapQ IntKind.i64 (Int.add x1_2 (Int.ofNat 0))) (wrapQ IntKind.i64 (Int.add x1_3 (Int.ofNat 0))) (wrapQ IntKind.i64 (Int.add x1_4 (Int.ofNat 1))) = false → R (Value.tuple (Array.mk [Value.agg (Array.mk [Value.int IntKind.i64 (Int.ofNat 0), Value.int IntKind.i64 (Int.ofNat 0), Value.int IntKind.i64 (Int.ofNat 0), Value.int IntKind.i64 (Int.ofNat 0), Value.int IntKind.i64 (Int.ofNat 0)]), Value.int IntKind.i64 (Int.ofNat 18)]))))) ∧ ((!leQ (Int.ofNat 0) x2_1) = true → R (Value.tuple (Array.mk [Value.agg (Array.mk [Value.int IntKind.i64 (Int.ofNat 0), Value.int IntKind.i64 (Int.ofNat 0), Value.int IntKind.i64 (Int.ofNat 0), Value.int IntKind.i64 (Int.ofNat 0), Value.int IntKind.i64 (Int.ofNat 0)]), Value.int IntKind.i64 (Int.ofNat 2)]))))) (fun v => v = v15 x0_0 x0_1 x0_2 x0_3 x0_4 x1_0 x1_1 x1_2 x1_3 x1_4 (Int.ofNat 6) x2_1)) (by kernel_rfl) ?_⟩
    dsimp only
    repeat' (first | apply And.intro | intro)
    all_goals first | (simp only [v15, r15_0, r15_1, r15_2, r15_3, r15_4, r15_5, *, Abs.iff_true, Abs.iff_false]; done) | (simp only [Int.ofNat_eq_natCast, leQ_eq, eqQ_eq, Bool.not_eq_false', Bool.not_eq_true', decide_eq_true_eq, decide_eq_false_iff_not, beq_eq_false_iff_ne, ne_eq] at *; omega) | (simp only [r13_0, r25_0, v27, r28_0, Abs.iff_eq, Int.ofNat_eq_natCast, leQ_eq, eqQ_eq] at *; grind)
  by_cases hc7 : x2_0 = Int.ofNat 7
  · subst hc7
    have hk1 : eqQ (Int.ofNat 7) (Int.ofNat 1) = false := by kernel_rfl
    have hk2 : eqQ (Int.ofNat 7) (Int.ofNat 2) = false := by kernel_rfl
    have hk3 : eqQ (Int.ofNat 7) (Int.ofNat 3) = false := by kernel_rfl
    have hk4 : eqQ (Int.ofNat 7) (Int.ofNat 4) = false := by kernel_rfl
    have hk5 : eqQ (Int.ofNat 7) (Int.ofNat 5) = false := by kernel_rfl
    have hk6 : eqQ (Int.ofNat 7) (Int.ofNat 6) = false := by kernel_rfl
    have hk7 : eqQ (Int.ofNat 7) (Int.ofNat 7) = true := by kernel_rfl
    refine ⟨(.split .done (.lit (.lit (.lit (.lit (.split (.lit (.lit (.lit (.lit (.split .done (.split .done (.lit .done))))))) (.lit (.lit (.lit (.lit (.lit .done))))))))))), of_eq (b := (fun R : Value → Prop => ((!eqQ (r13_0 x0_0 x0_1 x0_2 x0_3 x0_4 x1_0 x1_1 x1_2 x1_3 x1_4) (Int.ofNat 0)) = true → R (Value.tuple (Array.mk [Value.agg (Array.mk [Value.int IntKind.i64 (Int.ofNat 0), Value.int IntKind.i64 (Int.ofNat 0), Value.int IntKind.i64 (Int.ofNat 0), Value.int IntKind.i64 (Int.ofNat 0), Value.int IntKind.i64 (Int.ofNat 0)]), Value.int IntKind.i64 (r13_0 x0_0 x0_1 x0_2 x0_3 x0_4 x1_0 x1_1 x1_2 x1_3 x1_4)]))) ∧ ((!eqQ (r13_0 x0_0 x0_1 x0_2 x0_3 x0_4 x1_0 x1_1 x1_2 x1_3 x1_4) (Int.ofNat 0)) = false → ((!leQ (Int.ofNat 0) x2_1) = false → ((!leQ x2_1 (Int.ofNat 0)) = true → R (Value.tuple (Array.mk [Value.agg (Array.mk [Value.int IntKind.i64 (Int.ofNat 0), Value.int IntKind.i64 (Int.ofNat 0), Value.int IntKind.i64 (Int.ofNat 0), Value.int IntKind.i64 (Int.ofNat 0), Value.int IntKind.i64 (Int.ofNat 0)]), Value.int IntKind.i64 (Int.ofNat 2)]))) ∧ ((!leQ x2_1 (Int.ofNat 0)) = false → (r25_0 x0_0 x0_1 x0_2 x0_3 x0_4 (wrapQ IntKind.i64 (Int.add x1_0 (Int.ofNat 0))) (wrapQ IntKind.i64 (Int.add x1_1 (wrapQ IntKind.i64 (Int.mul (Int.ofNat 0) x2_1)))) (wrapQ IntKind.i64 (Int.add x1_2 (Int.ofNat 0))) (wrapQ IntKind.i64 (Int.add x1_3 (Int.ofNat 0))) (wrapQ IntKind.i64 (Int.add x1_4 (Int.negSucc 0))) = true → R (Value.tuple (Array.mk [Value.agg (Array.mk [Value.int IntKind.i64 (wrapQ IntKind.i64 (Int.add x1_0 (Int.ofNat 0))), Value.int IntKind.i64 (wrapQ IntKind.i64 (Int.add x1_1 (wrapQ IntKind.i64 (Int.mul (Int.ofNat 0) x2_1)))), Value.int IntKind.i64 (wrapQ IntKind.i64 (Int.add x1_2 (Int.ofNat 0))), Value.int IntKind.i64 (wrapQ IntKind.i64 (Int.add x1_3 (Int.ofNat 0))), Value.int IntKind.i64 (wrapQ IntKind.i64 (Int.add x1_4 (Int.negSucc 0)))]), Value.int IntKind.i64 (Int.ofNat 0)]))) ∧ (r25_0 x0_0 x0_1 x0_2 x0_3 x0_4 (wrapQ IntKind.i64 (Int.add x1_0 (Int.ofNat 0))) (wrapQ IntKind.i64 (Int.add x1_1 (wrapQ IntKind.i64 (Int.mul (Int.ofNat 0) x2_1)))) (wrapQ IntKind.i64 (Int.add x1_2 (Int.ofNat 0))) (wrapQ IntKind.i64 (Int.add x1_3 (Int.ofNat 0))) (wrapQ IntKind.i64 (Int.add x1_4 (Int.negSucc 0))) = false → R (Value.tuple (Array.mk [Value.agg (Array.mk [Value.int IntKind.i64 (Int.ofNat 0), Value.int IntKind.i64 (Int.ofNat 0), Value.int IntKind.i64 (Int.ofNat 0), Value.int IntKind.i64 (Int.ofNat 0), Value.int IntKind.i64 (Int.ofNat 0)]), Value.int IntKind.i64 (Int.ofNat 36)]))))) ∧ ((!leQ (Int.ofNat 0) x2_1) = true → R (Value.tuple (Array.mk [Value.agg (Array.mk [Value.int IntKind.i64 (Int.ofNat 0), Value.int IntKind.i64 (Int.ofNat 0), Value.int IntKind.i64 (Int.ofNat 0), Value.int IntKind.i64 (Int.ofNat 0), Value.int IntKind.i64 (Int.ofNat 0)]), Value.int IntKind.i64 (Int.ofNat 2)]))))) (fun v => v = v15 x0_0 x0_1 x0_2 x0_3 x0_4 x1_0 x1_1 x1_2 x1_3 x1_4 (Int.ofNat 7) x2_1)) (by kernel_rfl) ?_⟩
    dsimp only
    repeat' (first | apply And.intro | intro)
    all_goals first | (simp only [v15, r15_0, r15_1, r15_2, r15_3, r15_4, r15_5, *, Abs.iff_true, Abs.iff_false]; done) | (simp only [Int.ofNat_eq_natCast, leQ_eq, eqQ_eq, Bool.not_eq_false', Bool.not_eq_true', decide_eq_true_eq, decide_eq_false_iff_not, beq_eq_false_iff_ne, ne_eq] at *; omega) | (simp only [r13_0, r25_0, v27, r28_0, Abs.iff_eq, Int.ofNat_eq_natCast, leQ_eq, eqQ_eq] at *; grind)
  have hk1 : eqQ x2_0 (Int.ofNat 1) = false := by rw [eqQ_eq]; exact beq_eq_false_iff_ne.2 hc1
  have hk2 : eqQ x2_0 (Int.ofNat 2) = false := by rw [eqQ_eq]; exact beq_eq_false_iff_ne.2 hc2
  have hk3 : eqQ x2_0 (Int.ofNat 3) = false := by rw [eqQ_eq]; exact beq_eq_false_iff_ne.2 hc3
  have hk4 : eqQ x2_0 (Int.ofNat 4) = false := by rw [eqQ_eq]; exact beq_eq_false_iff_ne.2 hc4
  have hk5 : eqQ x2_0 (Int.ofNat 5) = false := by rw [eqQ_eq]; exact beq_eq_false_iff_ne.2 hc5
  have hk6 : eqQ x2_0 (Int.ofNat 6) = false := by rw [eqQ_eq]; exact beq_eq_false_iff_ne.2 hc6
  have hk7 : eqQ x2_0 (Int.ofNat 7) = false := by rw [eqQ_eq]; exact beq_eq_false_iff_ne.2 hc7
  refine ⟨(.split .done (.split (.lit (.lit (.sure true .done))) (.lit (.lit (.lit .done))))), of_eq (b := (fun R : Value → Prop => ((!eqQ (r13_0 x0_0 x0_1 x0_2 x0_3 x0_4 x1_0 x1_1 x1_2 x1_3 x1_4) (Int.ofNat 0)) = true → R (Value.tuple (Array.mk [Value.agg (Array.mk [Value.int IntKind.i64 (Int.ofNat 0), Value.int IntKind.i64 (Int.ofNat 0), Value.int IntKind.i64 (Int.ofNat 0), Value.int IntKind.i64 (Int.ofNat 0), Value.int IntKind.i64 (Int.ofNat 0)]), Value.int IntKind.i64 (r13_0 x0_0 x0_1 x0_2 x0_3 x0_4 x1_0 x1_1 x1_2 x1_3 x1_4)]))) ∧ ((!eqQ (r13_0 x0_0 x0_1 x0_2 x0_3 x0_4 x1_0 x1_1 x1_2 x1_3 x1_4) (Int.ofNat 0)) = false → ((!leQ (Int.ofNat 1) x2_0) = false → (!leQ x2_0 (Int.ofNat 7)) = true ∧ R (Value.tuple (Array.mk [Value.agg (Array.mk [Value.int IntKind.i64 (Int.ofNat 0), Value.int IntKind.i64 (Int.ofNat 0), Value.int IntKind.i64 (Int.ofNat 0), Value.int IntKind.i64 (Int.ofNat 0), Value.int IntKind.i64 (Int.ofNat 0)]), Value.int IntKind.i64 (Int.ofNat 2)]))) ∧ ((!leQ (Int.ofNat 1) x2_0) = true → R (Value.tuple (Array.mk [Value.agg (Array.mk [Value.int IntKind.i64 (Int.ofNat 0), Value.int IntKind.i64 (Int.ofNat 0), Value.int IntKind.i64 (Int.ofNat 0), Value.int IntKind.i64 (Int.ofNat 0), Value.int IntKind.i64 (Int.ofNat 0)]), Value.int IntKind.i64 (Int.ofNat 2)]))))) (fun v => v = v15 x0_0 x0_1 x0_2 x0_3 x0_4 x1_0 x1_1 x1_2 x1_3 x1_4 x2_0 x2_1)) (by kernel_rfl) ?_⟩
  dsimp only
  repeat' (first | apply And.intro | intro)
  all_goals first | (simp only [v15, r15_0, r15_1, r15_2, r15_3, r15_4, r15_5, *, Abs.iff_true, Abs.iff_false]; done) | (simp only [Int.ofNat_eq_natCast, leQ_eq, eqQ_eq, Bool.not_eq_false', Bool.not_eq_true', decide_eq_true_eq, decide_eq_false_iff_not, beq_eq_false_iff_ne, ne_eq] at *; omega) | (simp only [r13_0, r25_0, v27, r28_0, Abs.iff_eq, Int.ofNat_eq_natCast, leQ_eq, eqQ_eq] at *; grind)
end Go.Proofs.YtkadjjicakinbaaDoor
