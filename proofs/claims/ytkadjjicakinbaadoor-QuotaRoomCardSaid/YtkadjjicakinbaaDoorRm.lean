/- QuotaRoom: its walk. -/
import Derived.Test.YtkadjjicakinbaaDoorRa
import Derived.Test.YtkadjjicakinbaaDoorMachC
set_option maxRecDepth 100000
namespace Go.Proofs.YtkadjjicakinbaaDoor
open Go Go.Abs
namespace Room
noncomputable def hint : Hint := ⟨[], []⟩
noncomputable def Lt (N : Nat) := loopT Tryd.prog Tb.glob (fun k => memN k (tabs0.map (·.1))) N
noncomputable def path : List Nat := [1, 1, 1, 1, 1, 0, 1, 0]
noncomputable def Kend := vcEnd Tb.T Tryd.f5 fun v1 _ => v1 = .bool true
noncomputable def K0 (N : Nat) := vcCtx (Lt N) Tb.T call hint path code Kend
noncomputable def inner : Code := subC [1, 1, 1, 1, 1, 0, 1, 0, 0] code
theorem inner_ok : codeOk Tb.glob Tryd.f5.ntmps inner = true := by kernel_rfl
section
variable {a b c d f g i j k l nn : Int}
/-- how many may fly -/
def Rooms (c d j k nn : Int) : Prop := (nn = c - j ∧ c ≤ d - k) ∨ (nn = d - k - j ∧ d - k < c)
def Iv (nn x : Int) : Prop := 0 ≤ x ∧ x ≤ nn
def mu (nn x : Int) : Nat := (nn - x).toNat

theorem body (hQ : Qv a b c d f) (hU : Uv a b c d f g i j k l) (hR : Rooms c d j k nn) (N : Nat) (x : Int) (hx : Iv nn x) :
    ∃ t, vcC (Lt N) Tb.T call hint inner t (cutE [2, 3, 5, 6, 8] (vs nn x)) (cutS [0, 1, 2] (so ++ os a b c d f g i j k l x) 3) (cutQ [2, 3, 5, 6, 8] (CutC [0] [0, 1, 2] 3 so (Iv nn) (mu nn) (vs nn) (os a b c d f g i j k l) (mu nn x)) (K0 N)) := by
  refine ⟨(.split (.split .done .done) (.lit (.lit .done))), of_eq (b := (fun (R : Value → ASt → Prop) (C : List Value → ASt → Prop) => ((!leQ nn x) = true → ((!eqQ (r15_5 a b c d f g i (j + x) k l (Int.ofNat 3) (Int.ofNat 0)) (Int.ofNat 0)) = true → R (Value.bool false) (ASt.mk (Tr.node (Tr.node (Tr.node Tr.leaf (some (AObj.cells [Value.int IntKind.i64 (r15_0 a b c d f g i (j + x) k l (Int.ofNat 3) (Int.ofNat 0)), Value.int IntKind.i64 (r15_1 a b c d f g i (j + x) k l (Int.ofNat 3) (Int.ofNat 0)), Value.int IntKind.i64 (r15_2 a b c d f g i (j + x) k l (Int.ofNat 3) (Int.ofNat 0)), Value.int IntKind.i64 (r15_3 a b c d f g i (j + x) k l (Int.ofNat 3) (Int.ofNat 0)), Value.int IntKind.i64 (r15_4 a b c d f g i (j + x) k l (Int.ofNat 3) (Int.ofNat 0))] none 3 false false)) Tr.leaf) (some (AObj.cells [Value.int IntKind.i64 a, Value.int IntKind.i64 b, Value.int IntKind.i64 c, Value.int IntKind.i64 d, Value.int IntKind.i64 f] none 1 false false)) Tr.leaf) (some (AObj.cells rowsC none 0 true false)) (Tr.node Tr.leaf (some (AObj.cells [Value.int IntKind.i64 g, Value.int IntKind.i64 i, Value.int IntKind.i64 (j + x), Value.int IntKind.i64 k, Value.int IntKind.i64 l] none 2 false false)) Tr.leaf)) 4 4 4)) ∧ ((!eqQ (r15_5 a b c d f g i (j + x) k l (Int.ofNat 3) (Int.ofNat 0)) (Int.ofNat 0)) = false → C [Value.pointer (some (Addr.mk 1 0 none)), Value.pointer (some (Addr.mk 2 0 none)), Value.bool true, Value.int IntKind.i64 nn, Value.int IntKind.i64 (wrapQ IntKind.i64 (Int.add x (Int.ofNat 1)))] (ASt.mk (Tr.node (Tr.node (Tr.node Tr.leaf (some (AObj.cells [Value.int IntKind.i64 (r15_0 a b c d f g i (j + x) k l (Int.ofNat 3) (Int.ofNat 0)), Value.int IntKind.i64 (r15_1 a b c d f g i (j + x) k l (Int.ofNat 3) (Int.ofNat 0)), Value.int IntKind.i64 (r15_2 a b c d f g i (j + x) k l (Int.ofNat 3) (Int.ofNat 0)), Value.int IntKind.i64 (r15_3 a b c d f g i (j + x) k l (Int.ofNat 3) (Int.ofNat 0)), Value.int IntKind.i64 (r15_4 a b c d f g i (j + x) k l (Int.ofNat 3) (Int.ofNat 0))] none 3 false false)) Tr.leaf) (some (AObj.cells [Value.int IntKind.i64 a, Value.int IntKind.i64 b, Value.int IntKind.i64 c, Value.int IntKind.i64 d, Value.int IntKind.i64 f] none 1 false false)) Tr.leaf) (some (AObj.cells rowsC none 0 true false)) (Tr.node Tr.leaf (some (AObj.cells [Value.int IntKind.i64 (r15_0 a b c d f g i (j + x) k l (Int.ofNat 3) (Int.ofNat 0)), Value.int IntKind.i64 (r15_1 a b c d f g i (j + x) k l (Int.ofNat 3) (Int.ofNat 0)), Value.int IntKind.i64 (r15_2 a b c d f g i (j + x) k l (Int.ofNat 3) (Int.ofNat 0)), Value.int IntKind.i64 (r15_3 a b c d f g i (j + x) k l (Int.ofNat 3) (Int.ofNat 0)), Value.int IntKind.i64 (r15_4 a b c d f g i (j + x) k l (Int.ofNat 3) (Int.ofNat 0))] none 2 false false)) Tr.leaf)) 4 4 4))) ∧ ((!leQ nn x) = false → R (Value.bool (eqQ (r15_5 a b c d f g i (j + x) k l (Int.ofNat 3) (Int.ofNat 0)) (Int.ofNat 18))) (ASt.mk (Tr.node (Tr.node (Tr.node Tr.leaf (some (AObj.cells [Value.int IntKind.i64 (r15_0 a b c d f g i (j + x) k l (Int.ofNat 3) (Int.ofNat 0)), Value.int IntKind.i64 (r15_1 a b c d f g i (j + x) k l (Int.ofNat 3) (Int.ofNat 0)), Value.int IntKind.i64 (r15_2 a b c d f g i (j + x) k l (Int.ofNat 3) (Int.ofNat 0)), Value.int IntKind.i64 (r15_3 a b c d f g i (j + x) k l (Int.ofNat 3) (Int.ofNat 0)), Value.int IntKind.i64 (r15_4 a b c d f g i (j + x) k l (Int.ofNat 3) (Int.ofNat 0))] none 3 false false)) Tr.leaf) (some (AObj.cells [Value.int IntKind.i64 a, Value.int IntKind.i64 b, Value.int IntKind.i64 c, Value.int IntKind.i64 d, Value.int IntKind.i64 f] none 1 false false)) Tr.leaf) (some (AObj.cells rowsC none 0 true false)) (Tr.node Tr.leaf (some (AObj.cells [Value.int IntKind.i64 g, Value.int IntKind.i64 i, Value.int IntKind.i64 (j + x), Value.int IntKind.i64 k, Value.int IntKind.i64 l] none 2 false false)) Tr.leaf)) 4 4 4))) (fun v _ => v = .bool true) (CutC [0] [0, 1, 2] 3 so (Iv nn) (mu nn) (vs nn) (os a b c d f g i j k l) (mu nn x))) (by kernel_rfl) ?_⟩
  unfold Iv at hx
  unfold Rooms at hR
  have hQ' := hQ
  have hU' := hU
  unfold Qv at hQ'
  unfold Uv at hU'
  have hX : Uv a b c d f g i (j + x) k l := by unfold Uv; omega
  have h3 := st3 hQ hX (n := Int.ofNat 0) rfl
  dsimp only
  refine ⟨fun hlt => ?_, fun hge => ?_⟩
  · have hlt' : x < nn := by
      rw [leQ_eq] at hlt
      simpa using hlt
    have hN : Uv a b c d f g i (j + x + 1) k l := by unfold Uv; omega
    obtain ⟨e5, e0, e1, e2, e3, e4⟩ : _ ∧ _ := ⟨h3.1, h3.2 hN⟩
    rw [if_pos hN] at e5
    refine ⟨fun hf => ?_, fun _ => ?_⟩
    · rw [e5] at hf; cases (hf.symm.trans (show (!eqQ (0 : Int) (Int.ofNat 0)) = false by kernel_rfl) : true = false)
    · have hw : wrapQ .i64 (Int.add x (Int.ofNat 1)) = x + 1 := wrapQ64 (by show _ ≤ x + 1; omega) (by show x + 1 ≤ _; omega)
      rw [hw, e0, e1, e2, e3, e4]
      refine ⟨x + 1, [0, 1, 2], ?_, ?_, by kernel_rfl, ?_⟩
      · unfold mu; omega
      · unfold Iv; omega
      · have hj : j + x + 1 = j + (x + 1) := by omega
        rw [hj]
        exact of_eq (b := Fits [0] [0, 1, 2] [0, 1, 2] so (vs nn (x + 1)) (os a b c d f g i j k l (x + 1)) (vs nn (x + 1)) (so ++ os a b c d f g i j k l (x + 1))) (by kernel_rfl) (fits_same (by kernel_rfl) (by kernel_rfl) (by kernel_rfl) rfl)
  · have hge' : nn ≤ x := by
      rw [leQ_eq] at hge
      simpa using hge
    have hN : ¬ Uv a b c d f g i (j + x + 1) k l := by unfold Uv; omega
    have e5 := h3.1
    rw [if_neg hN] at e5
    show Value.bool (eqQ (r15_5 a b c d f g i (j + x) k l (Int.ofNat 3) (Int.ofNat 0)) (Int.ofNat 18)) = .bool true
    rw [e5]
    rfl

theorem r17 (hQ : Qv a b c d f) (hU : Uv a b c d f g i j k l) : r17_1 a b c d f g i j k l = 0 ∧ Rooms c d j k (r17_0 a b c d f g i j k l) ∧ 0 ≤ r17_0 a b c d f g i j k l ∧ r17_0 a b c d f g i j k l ≤ c := by
  have h13 : r13_0 a b c d f g i j k l = 0 := by rw [val13, if_pos ⟨hQ, hU⟩]
  have hQ' := hQ
  have hU' := hU
  unfold Qv at hQ'
  unfold Uv at hU'
  have w1 : wrapQ .i64 (Int.sub d k) = d - k := wrapQ64 (by show _ ≤ d - k; omega) (by show d - k ≤ _; omega)
  have hz : eqQ (0 : Int) (Int.ofNat 0) = true := by kernel_rfl
  refine ⟨by rw [r17_1, h13]; rfl, ?_⟩
  rw [r17_0, h13, hz, w1, iff_ite (leQ c (d - k)), leQ_eq]
  simp only [Bool.not_true, Abs.iff_false, decide_eq_true_eq]
  split
  · rename_i h
    have w2 : wrapQ .i64 (Int.sub c j) = c - j := wrapQ64 (by show _ ≤ c - j; omega) (by show c - j ≤ _; omega)
    rw [w2]
    exact ⟨.inl ⟨rfl, h⟩, by omega, by omega⟩
  · rename_i h
    have w2 : wrapQ .i64 (Int.sub (d - k) j) = d - k - j := wrapQ64 (by show _ ≤ d - k - j; omega) (by show d - k - j ≤ _; omega)
    rw [w2]
    exact ⟨.inr ⟨rfl, by omega⟩, by omega, by omega⟩

theorem walk (a b c d f g i j k l : Int) (N : Nat) (hN : Tryd.f5.ntmps ≤ N) : ∃ t, vcC (Lt N) Tb.T call hint code t (initEnv [agg5 a b c d f, agg5 g i j k l] 0 .leaf) (tabS tabs0 1) Kend := by
  refine ⟨(.split (.lit (.lit (.split (.lit (.split (.lit (.lit (.lit (.split .done .done)))) (.lit (.lit (.lit (.lit .done)))))) (.lit (.lit (.lit (.lit (.lit (.lit .done))))))))) (.lit (.lit .done))), of_eq (b := (fun (R : Value → ASt → Prop) (Lp : Nat → Env → ASt → Prop) => ((!eqQ (r14_0 a b c d f g i j k l) (Int.ofNat 0)) = false → ((!eqQ (r17_1 a b c d f g i j k l) (Int.ofNat 0)) = false → ((!leQ (Int.ofNat 0) (r17_0 a b c d f g i j k l)) = false → ((!leQ (r17_0 a b c d f g i j k l) c) = true → R (Value.bool false) (ASt.mk (Tr.node (Tr.node Tr.leaf (some (AObj.cells [Value.int IntKind.i64 a, Value.int IntKind.i64 b, Value.int IntKind.i64 c, Value.int IntKind.i64 d, Value.int IntKind.i64 f] none 1 false false)) Tr.leaf) (some (AObj.cells rowsC none 0 true false)) (Tr.node Tr.leaf (some (AObj.cells [Value.int IntKind.i64 g, Value.int IntKind.i64 i, Value.int IntKind.i64 j, Value.int IntKind.i64 k, Value.int IntKind.i64 l] none 2 false false)) Tr.leaf)) 3 3 3)) ∧ ((!leQ (r17_0 a b c d f g i j k l) c) = false → Lp 8 (mkTr2 [0, 1, 2, 3, 4, 5, 6, 7, 8, 13, 14, 15, 16, 17, 18, 19, 20, 21, 23, 24, 25, 26, 27, 28, 29, 30, 31, 32, 33, 34, 35, 36, 37, 38, 39, 40] [Value.agg (Array.mk [Value.int IntKind.i64 a, Value.int IntKind.i64 b, Value.int IntKind.i64 c, Value.int IntKind.i64 d, Value.int IntKind.i64 f]), Value.agg (Array.mk [Value.int IntKind.i64 g, Value.int IntKind.i64 i, Value.int IntKind.i64 j, Value.int IntKind.i64 k, Value.int IntKind.i64 l]), Value.pointer (some (Addr.mk 1 0 none)), Value.pointer (some (Addr.mk 2 0 none)), Value.bool false, Value.bool true, Value.int IntKind.i64 (r17_0 a b c d f g i j k l), Value.int IntKind.i64 (r17_1 a b c d f g i j k l), Value.int IntKind.i64 (Int.ofNat 0), Value.bool true, Value.agg (Array.mk [Value.int IntKind.i64 a, Value.int IntKind.i64 b, Value.int IntKind.i64 c, Value.int IntKind.i64 d, Value.int IntKind.i64 f]), Value.agg (Array.mk [Value.int IntKind.i64 g, Value.int IntKind.i64 i, Value.int IntKind.i64 j, Value.int IntKind.i64 k, Value.int IntKind.i64 l]), Value.int IntKind.i64 (r14_0 a b c d f g i j k l), Value.bool !eqQ (r14_0 a b c d f g i j k l) (Int.ofNat 0), Value.bool false, Value.bool true, Value.bool false, Value.bool false, Value.tuple (Array.mk [Value.int IntKind.i64 (r17_0 a b c d f g i j k l), Value.int IntKind.i64 (r17_1 a b c d f g i j k l)]), Value.agg (Array.mk [Value.int IntKind.i64 a, Value.int IntKind.i64 b, Value.int IntKind.i64 c, Value.int IntKind.i64 d, Value.int IntKind.i64 f]), Value.agg (Array.mk [Value.int IntKind.i64 g, Value.int IntKind.i64 i, Value.int IntKind.i64 j, Value.int IntKind.i64 k, Value.int IntKind.i64 l]), Value.tuple (Array.mk [Value.int IntKind.i64 (r17_0 a b c d f g i j k l), Value.int IntKind.i64 (r17_1 a b c d f g i j k l)]), Value.int IntKind.i64 (r17_0 a b c d f g i j k l), Value.int IntKind.i64 (r17_1 a b c d f g i j k l), Value.int IntKind.i64 (r17_1 a b c d f g i j k l), Value.bool !eqQ (r17_1 a b c d f g i j k l) (Int.ofNat 0), Value.bool false, Value.int IntKind.i64 (r17_0 a b c d f g i j k l), Value.bool !leQ (Int.ofNat 0) (r17_0 a b c d f g i j k l), Value.bool !leQ (Int.ofNat 0) (r17_0 a b c d f g i j k l), Value.bool false, Value.int IntKind.i64 (r17_0 a b c d f g i j k l), Value.pointer (some (Addr.mk 1 2 none)), Value.int IntKind.i64 c, Value.bool !leQ (r17_0 a b c d f g i j k l) c, Value.bool false]) (ASt.mk (Tr.node (Tr.node Tr.leaf (some (AObj.cells [Value.int IntKind.i64 a, Value.int IntKind.i64 b, Value.int IntKind.i64 c, Value.int IntKind.i64 d, Value.int IntKind.i64 f] none 1 false false)) Tr.leaf) (some (AObj.cells rowsC none 0 true false)) (Tr.node Tr.leaf (some (AObj.cells [Value.int IntKind.i64 g, Value.int IntKind.i64 i, Value.int IntKind.i64 j, Value.int IntKind.i64 k, Value.int IntKind.i64 l] none 2 false false)) Tr.leaf)) 3 3 3))) ∧ ((!leQ (Int.ofNat 0) (r17_0 a b c d f g i j k l)) = true → R (Value.bool false) (ASt.mk (Tr.node (Tr.node Tr.leaf (some (AObj.cells [Value.int IntKind.i64 a, Value.int IntKind.i64 b, Value.int IntKind.i64 c, Value.int IntKind.i64 d, Value.int IntKind.i64 f] none 1 false false)) Tr.leaf) (some (AObj.cells rowsC none 0 true false)) (Tr.node Tr.leaf (some (AObj.cells [Value.int IntKind.i64 g, Value.int IntKind.i64 i, Value.int IntKind.i64 j, Value.int IntKind.i64 k, Value.int IntKind.i64 l] none 2 false false)) Tr.leaf)) 3 3 3))) ∧ ((!eqQ (r17_1 a b c d f g i j k l) (Int.ofNat 0)) = true → R (Value.bool false) (ASt.mk (Tr.node (Tr.node Tr.leaf (some (AObj.cells [Value.int IntKind.i64 a, Value.int IntKind.i64 b, Value.int IntKind.i64 c, Value.int IntKind.i64 d, Value.int IntKind.i64 f] none 1 false false)) Tr.leaf) (some (AObj.cells rowsC none 0 true false)) (Tr.node Tr.leaf (some (AObj.cells [Value.int IntKind.i64 g, Value.int IntKind.i64 i, Value.int IntKind.i64 j, Value.int IntKind.i64 k, Value.int IntKind.i64 l] none 2 false false)) Tr.leaf)) 3 3 3))) ∧ ((!eqQ (r14_0 a b c d f g i j k l) (Int.ofNat 0)) = true → R (Value.bool true) (ASt.mk (Tr.node (Tr.node Tr.leaf (some (AObj.cells [Value.int IntKind.i64 a, Value.int IntKind.i64 b, Value.int IntKind.i64 c, Value.int IntKind.i64 d, Value.int IntKind.i64 f] none 1 false false)) Tr.leaf) (some (AObj.cells rowsC none 0 true false)) (Tr.node Tr.leaf (some (AObj.cells [Value.int IntKind.i64 g, Value.int IntKind.i64 i, Value.int IntKind.i64 j, Value.int IntKind.i64 k, Value.int IntKind.i64 l] none 2 false false)) Tr.leaf)) 3 3 3))) (fun v _ => v = .bool true) (fun _ e σ => Lt N (.loop inner) e σ (K0 N))) (by kernel_rfl) ?_⟩
  dsimp only
  refine ⟨fun h14 => ?_, fun _ => rfl⟩
  have hV : Qv a b c d f ∧ Uv a b c d f g i j k l := by
    by_cases hV : Qv a b c d f ∧ Uv a b c d f g i j k l
    · exact hV
    · rw [val14, if_neg hV] at h14
      cases (h14.symm.trans (show (!eqQ (8 : Int) (Int.ofNat 0)) = true by kernel_rfl) : false = true)
  obtain ⟨hQ, hU⟩ := hV
  obtain ⟨m1, m2, m3, m4⟩ := r17 hQ hU
  have z1 : eqQ (r17_1 a b c d f g i j k l) (Int.ofNat 0) = true := by rw [m1]; kernel_rfl
  have z2 : leQ (Int.ofNat 0) (r17_0 a b c d f g i j k l) = true := by rw [leQ_eq]; exact decide_eq_true m3
  have z3 : leQ (r17_0 a b c d f g i j k l) c = true := by rw [leQ_eq]; exact decide_eq_true m4
  refine ⟨fun _ => ⟨fun _ => ⟨fun h => ?_, fun _ => ?_⟩, fun h => ?_⟩, fun h => ?_⟩
  · rw [z3] at h; cases h
  · refine loop_rule (X := Int) mix Tb.tys call_ok.1 call_ok.2 (codeOk_mono hN _ inner_ok) [0] [0, 1, 2] [2, 3, 5, 6, 8] 3 so (Iv (r17_0 a b c d f g i j k l)) (mu (r17_0 a b c d f g i j k l)) (vs (r17_0 a b c d f g i j k l)) (os a b c d f g i j k l) tabs0_mem rfl
      (body hQ hU m2 N) 0 [0, 1, 2] ⟨Int.le_refl 0, m3⟩ (by kernel_rfl) ?_
    have hj : os a b c d f g i j k l 0 = [.cells (row5 a b c d f) none 1 false false, .cells (row5 g i j k l) none 2 false false] := by unfold os; rw [Int.add_zero]
    exact of_eq (b := Fits [0] [0, 1, 2] [0, 1, 2] so (vs (r17_0 a b c d f g i j k l) 0) (os a b c d f g i j k l 0) (vs (r17_0 a b c d f g i j k l) 0) (so ++ [.cells (row5 a b c d f) none 1 false false, .cells (row5 g i j k l) none 2 false false])) (by kernel_rfl)
      (by rw [← hj]; exact fits_same (by kernel_rfl) (by kernel_rfl) (by kernel_rfl) rfl)
  · rw [z2] at h; cases h
  · rw [z1] at h; cases h
end

noncomputable def s5 : SpecF := fun args σ => andThen2 (gCons args) fun a0' q0' => andThen2 (gCons q0') fun a1' q1' => andThen (gNil q1') fun _ => andThen (asA a0') fun l0' => andThen2 (gCons l0') fun c0_0 q0_0 => andThen (gI .i64 c0_0) fun a => andThen2 (gCons q0_0) fun c0_1 q0_1 => andThen (gI .i64 c0_1) fun b => andThen2 (gCons q0_1) fun c0_2 q0_2 => andThen (gI .i64 c0_2) fun c => andThen2 (gCons q0_2) fun c0_3 q0_3 => andThen (gI .i64 c0_3) fun d => andThen2 (gCons q0_3) fun c0_4 q0_4 => andThen (gI .i64 c0_4) fun f => andThen (gNil q0_4) fun _ => andThen (asA a1') fun l1' => andThen2 (gCons l1') fun c1_0 q1_0 => andThen (gI .i64 c1_0) fun g => andThen2 (gCons q1_0) fun c1_1 q1_1 => andThen (gI .i64 c1_1) fun i => andThen2 (gCons q1_1) fun c1_2 q1_2 => andThen (gI .i64 c1_2) fun j => andThen2 (gCons q1_2) fun c1_3 q1_3 => andThen (gI .i64 c1_3) fun k => andThen2 (gCons q1_3) fun c1_4 q1_4 => andThen (gI .i64 c1_4) fun l => andThen (gNil q1_4) fun _ => iff (hasTabs tabs0 σ) (some (.bool true, σ)) none
theorem s5_sim : SpecSim Tryd.prog Tb.glob 5 s5 := by
  refine plain_loop Tb.glob tabs0 1 (call := call) hint mix Tb.tys call_ok Tryd.func5 (by kernel_rfl) (by kernel_rfl) (by kernel_rfl) (by kernel_rfl) tabs0_mem fun args σ v σ' h => ?_
  obtain ⟨a0', q0', e0', h⟩ := andThen2_eq h
  obtain ⟨a1', q1', e1', h⟩ := andThen2_eq h
  obtain ⟨_, en', h⟩ := andThen_eq h
  obtain ⟨l0', ea0', h⟩ := andThen_eq h
  obtain ⟨c0_0, q0_0, e0_0, h⟩ := andThen2_eq h
  obtain ⟨a, ex0_0, h⟩ := andThen_eq h
  obtain ⟨c0_1, q0_1, e0_1, h⟩ := andThen2_eq h
  obtain ⟨b, ex0_1, h⟩ := andThen_eq h
  obtain ⟨c0_2, q0_2, e0_2, h⟩ := andThen2_eq h
  obtain ⟨c, ex0_2, h⟩ := andThen_eq h
  obtain ⟨c0_3, q0_3, e0_3, h⟩ := andThen2_eq h
  obtain ⟨d, ex0_3, h⟩ := andThen_eq h
  obtain ⟨c0_4, q0_4, e0_4, h⟩ := andThen2_eq h
  obtain ⟨f, ex0_4, h⟩ := andThen_eq h
  obtain ⟨_, en0, h⟩ := andThen_eq h
  obtain ⟨l1', ea1', h⟩ := andThen_eq h
  obtain ⟨c1_0, q1_0, e1_0, h⟩ := andThen2_eq h
  obtain ⟨g, ex1_0, h⟩ := andThen_eq h
  obtain ⟨c1_1, q1_1, e1_1, h⟩ := andThen2_eq h
  obtain ⟨i, ex1_1, h⟩ := andThen_eq h
  obtain ⟨c1_2, q1_2, e1_2, h⟩ := andThen2_eq h
  obtain ⟨j, ex1_2, h⟩ := andThen_eq h
  obtain ⟨c1_3, q1_3, e1_3, h⟩ := andThen2_eq h
  obtain ⟨k, ex1_3, h⟩ := andThen_eq h
  obtain ⟨c1_4, q1_4, e1_4, h⟩ := andThen2_eq h
  obtain ⟨l, ex1_4, h⟩ := andThen_eq h
  obtain ⟨_, en1, h⟩ := andThen_eq h
  obtain ⟨ht, h⟩ := iff_some h
  cases h
  obtain rfl := gNil_eq en'
  obtain rfl := gNil_eq en0
  obtain rfl := gCons_eq e0_4
  obtain rfl := gI_eq ex0_4
  obtain rfl := gCons_eq e0_3
  obtain rfl := gI_eq ex0_3
  obtain rfl := gCons_eq e0_2
  obtain rfl := gI_eq ex0_2
  obtain rfl := gCons_eq e0_1
  obtain rfl := gI_eq ex0_1
  obtain rfl := gCons_eq e0_0
  obtain rfl := gI_eq ex0_0
  obtain rfl := asA_eq ea0'
  obtain rfl := gNil_eq en1
  obtain rfl := gCons_eq e1_4
  obtain rfl := gI_eq ex1_4
  obtain rfl := gCons_eq e1_3
  obtain rfl := gI_eq ex1_3
  obtain rfl := gCons_eq e1_2
  obtain rfl := gI_eq ex1_2
  obtain rfl := gCons_eq e1_1
  obtain rfl := gI_eq ex1_1
  obtain rfl := gCons_eq e1_0
  obtain rfl := gI_eq ex1_0
  obtain rfl := asA_eq ea1'
  obtain rfl := gCons_eq e1'
  obtain rfl := gCons_eq e0'
  exact ⟨rfl, ht, fun ι => .cons (VA.bareA (by rfl)) (.cons (VA.bareA (by rfl)) .nil), .bare rfl, fun N hN => walk a b c d f g i j k l N hN⟩
end Room
end Go.Proofs.YtkadjjicakinbaaDoor
