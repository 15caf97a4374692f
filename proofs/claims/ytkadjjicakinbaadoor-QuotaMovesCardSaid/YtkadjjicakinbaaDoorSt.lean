/- Step, kind by kind, in plain numbers. -/
import Derived.Test.YtkadjjicakinbaaDoorSp
import Derived.Test.YtkadjjicakinbaaDoorMachC
set_option maxRecDepth 100000
namespace Go.Proofs.YtkadjjicakinbaaDoor
open Go Go.Abs
/-- a valid quota -/
def Qv (a b c d f : Int) : Prop := 1 ≤ a ∧ a ≤ 8 ∧ 1 ≤ b ∧ b ≤ 16000 ∧ 1 ≤ c ∧ c ≤ 8 ∧ 1 ≤ d ∧ d ≤ 8 ∧ 1 ≤ f ∧ f ≤ 8
/-- a usage that is valid for it -/
def Uv (a b c d f g i j k l : Int) : Prop := 0 ≤ g ∧ g ≤ a ∧ 0 ≤ i ∧ i ≤ b ∧ 0 ≤ j ∧ j ≤ c ∧ 0 ≤ k ∧ 0 ≤ l ∧ l ≤ f ∧ j + k ≤ d ∧ (0 < g ∨ i = 0)
instance (a b c d f : Int) : Decidable (Qv a b c d f) := by unfold Qv; infer_instance
instance (a b c d f g i j k l : Int) : Decidable (Uv a b c d f g i j k l) := by unfold Uv; infer_instance
theorem int_sub (a b : Int) : Int.sub a b = a - b := rfl
theorem ofNat_lit0 : Int.ofNat 0 = 0 := rfl
theorem ofNat_lit1 : Int.ofNat 1 = 1 := rfl
theorem negSucc_lit : Int.negSucc 0 = -1 := rfl
variable {a b c d f g i j k l n : Int}
theorem c12 : r12_0 a b c d f = if Qv a b c d f then 0 else 8 := by
  simp only [r12_0, r24_0, iff_notz, iff_nest, iff_and, leQ_eq, Int.ofNat_eq_natCast]
  simp only [iff_ite, Bool.and_eq_true, decide_eq_true_eq, Qv, and_assoc]
  rfl
theorem c11 : r11_0 a b c d f = if Qv a b c d f then 0 else 8 := by
  simp only [r11_0, iff_notz, iff_nest, iff_and, leQ_eq, Int.ofNat_eq_natCast]
  simp only [iff_ite, Bool.and_eq_true, decide_eq_true_eq, Qv, and_assoc]
  rfl
theorem f26 (hQ : Qv a b c d f) : r26_0 a b c d f g i j k l = decide (Uv a b c d f g i j k l) := by
  rw [Bool.eq_iff_iff, decide_eq_true_eq]
  simp only [r26_0, iff_notz, iff_and, iff_imp, leQ_eq, eqQ_eq, Bool.and_eq_true, Bool.or_eq_true, decide_eq_true_eq, Bool.not_eq_true', decide_eq_false_iff_not, beq_iff_eq, Int.ofNat_eq_natCast, Int.add_def]
  unfold Qv at hQ
  unfold Uv
  constructor
  · intro h
    have w := wrapQ64 (n := j + k) (by omega) (by omega)
    rw [w] at h
    omega
  · intro h
    have w := wrapQ64 (n := j + k) (by omega) (by omega)
    rw [w]
    omega
theorem f25 (hQ : Qv a b c d f) : r25_0 a b c d f g i j k l = decide (Uv a b c d f g i j k l) := by
  rw [Bool.eq_iff_iff, decide_eq_true_eq]
  simp only [r25_0, iff_notz, iff_and, iff_imp, leQ_eq, eqQ_eq, Bool.and_eq_true, Bool.or_eq_true, decide_eq_true_eq, Bool.not_eq_true', decide_eq_false_iff_not, beq_iff_eq, Int.ofNat_eq_natCast, int_sub]
  unfold Qv at hQ
  unfold Uv
  constructor
  · intro h
    have w := wrapQ64 (n := d - j) (by omega) (by omega)
    rw [w] at h
    omega
  · intro h
    have w := wrapQ64 (n := d - j) (by omega) (by omega)
    rw [w]
    omega
theorem val14 : r14_0 a b c d f g i j k l = if Qv a b c d f ∧ Uv a b c d f g i j k l then 0 else 8 := by
  by_cases hQ : Qv a b c d f
  · rw [r14_0, c12, if_pos hQ, f26 hQ]
    by_cases hU : Uv a b c d f g i j k l
    · rw [if_pos ⟨hQ, hU⟩, decide_eq_true hU]; rfl
    · rw [if_neg (fun h => hU h.2), decide_eq_false hU]; rfl
  · rw [r14_0, c12, if_neg hQ, if_neg (fun h => hQ h.1)]; rfl
theorem val13 : r13_0 a b c d f g i j k l = if Qv a b c d f ∧ Uv a b c d f g i j k l then 0 else 8 := by
  by_cases hQ : Qv a b c d f
  · rw [r13_0, c11, if_pos hQ, f25 hQ]
    by_cases hU : Uv a b c d f g i j k l
    · rw [if_pos ⟨hQ, hU⟩, decide_eq_true hU]; rfl
    · rw [if_neg (fun h => hU h.2), decide_eq_false hU]; rfl
  · rw [r13_0, c11, if_neg hQ, if_neg (fun h => hQ h.1)]; rfl

theorem st1 (hQ : Qv a b c d f) (hU : Uv a b c d f g i j k l) (hn : 0 ≤ n ∧ n ≤ 2000) : r15_5 a b c d f g i j k l (Int.ofNat 1) n = (if Uv a b c d f (g + 1) (i + n) (j) (k) (l) then 0 else 18) ∧ (Uv a b c d f (g + 1) (i + n) (j) (k) (l) → r15_0 a b c d f g i j k l (Int.ofNat 1) n = g + 1 ∧ r15_1 a b c d f g i j k l (Int.ofNat 1) n = i + n ∧ r15_2 a b c d f g i j k l (Int.ofNat 1) n = j ∧ r15_3 a b c d f g i j k l (Int.ofNat 1) n = k ∧ r15_4 a b c d f g i j k l (Int.ofNat 1) n = l) := by
  have h13 : r13_0 a b c d f g i j k l = 0 := by rw [val13, if_pos ⟨hQ, hU⟩]
  have hQ' := hQ
  have hU' := hU
  unfold Qv at hQ'
  unfold Uv at hU'
  have w1 : wrapQ .i64 (1 * n) = n := by rw [Int.one_mul]; exact wrapQ64 (by omega) (by omega)
  have w2 : wrapQ .i64 (g + 1) = g + 1 := wrapQ64 (by omega) (by omega)
  have w3 : wrapQ .i64 (i + n) = i + n := wrapQ64 (by omega) (by omega)
  have z3 : wrapQ .i64 (j + 0) = j := by rw [Int.add_zero]; exact wrapQ64 (by omega) (by omega)
  have z4 : wrapQ .i64 (k + 0) = k := by rw [Int.add_zero]; exact wrapQ64 (by omega) (by omega)
  have z5 : wrapQ .i64 (l + 0) = l := by rw [Int.add_zero]; exact wrapQ64 (by omega) (by omega)
  have hf : ∀ g i j k l, r25_0 a b c d f g i j k l = decide (Uv a b c d f g i j k l) := fun g i j k l => f25 hQ
  simp only [r15_0, r15_1, r15_2, r15_3, r15_4, r15_5, h13, show eqQ (Int.ofNat 1) (Int.ofNat 1) = true from rfl, show eqQ (Int.ofNat 1) (Int.ofNat 2) = false from rfl, show eqQ (Int.ofNat 1) (Int.ofNat 3) = false from rfl, show eqQ (Int.ofNat 1) (Int.ofNat 4) = false from rfl, show eqQ (Int.ofNat 1) (Int.ofNat 5) = false from rfl, show eqQ (Int.ofNat 1) (Int.ofNat 6) = false from rfl, show eqQ (Int.ofNat 1) (Int.ofNat 7) = false from rfl, Abs.iff_true, Abs.iff_false]
  simp only [eqQ_eq, leQ_eq, hf, Int.ofNat_eq_natCast, Int.add_def, Int.mul_def, negSucc_lit, Int.natCast_zero, Int.natCast_one, w1, w2, w3, z3, z4, z5]
  have n1 : 0 ≤ n := by omega
  have n2 : n ≤ 2000 := by omega
  have m1 : (((0 : Nat) : Int) ≤ n) = True := eq_true n1
  have m2 : (n ≤ ((2000 : Nat) : Int)) = True := eq_true n2
  simp only [iff_ite, Bool.not_eq_true', decide_eq_false_iff_not, decide_eq_true_eq, beq_self_eq_true, Bool.not_true, Bool.false_eq_true, if_false, if_true, beq_iff_eq, beq_eq_false_iff_ne, n1, n2, m1, m2, not_true_eq_false]
  exact ⟨rfl, fun hN => by simp only [hN, if_true, and_self]⟩
theorem st2 (hQ : Qv a b c d f) (hU : Uv a b c d f g i j k l) (hn : 0 ≤ n ∧ n ≤ 2000) : r15_5 a b c d f g i j k l (Int.ofNat 2) n = (if Uv a b c d f (g - 1) (i - n) (j) (k) (l) then 0 else 36) ∧ (Uv a b c d f (g - 1) (i - n) (j) (k) (l) → r15_0 a b c d f g i j k l (Int.ofNat 2) n = g - 1 ∧ r15_1 a b c d f g i j k l (Int.ofNat 2) n = i - n ∧ r15_2 a b c d f g i j k l (Int.ofNat 2) n = j ∧ r15_3 a b c d f g i j k l (Int.ofNat 2) n = k ∧ r15_4 a b c d f g i j k l (Int.ofNat 2) n = l) := by
  have h13 : r13_0 a b c d f g i j k l = 0 := by rw [val13, if_pos ⟨hQ, hU⟩]
  have hQ' := hQ
  have hU' := hU
  unfold Qv at hQ'
  unfold Uv at hU'
  have w1 : wrapQ .i64 (-1 * n) = -n := by rw [Int.neg_one_mul]; exact wrapQ64 (by omega) (by omega)
  have w2 : wrapQ .i64 (g + -1) = g - 1 := wrapQ64 (by omega) (by omega)
  have w3 : wrapQ .i64 (i + -n) = i - n := wrapQ64 (by omega) (by omega)
  have z3 : wrapQ .i64 (j + 0) = j := by rw [Int.add_zero]; exact wrapQ64 (by omega) (by omega)
  have z4 : wrapQ .i64 (k + 0) = k := by rw [Int.add_zero]; exact wrapQ64 (by omega) (by omega)
  have z5 : wrapQ .i64 (l + 0) = l := by rw [Int.add_zero]; exact wrapQ64 (by omega) (by omega)
  have hf : ∀ g i j k l, r25_0 a b c d f g i j k l = decide (Uv a b c d f g i j k l) := fun g i j k l => f25 hQ
  simp only [r15_0, r15_1, r15_2, r15_3, r15_4, r15_5, h13, show eqQ (Int.ofNat 2) (Int.ofNat 1) = false from rfl, show eqQ (Int.ofNat 2) (Int.ofNat 2) = true from rfl, show eqQ (Int.ofNat 2) (Int.ofNat 3) = false from rfl, show eqQ (Int.ofNat 2) (Int.ofNat 4) = false from rfl, show eqQ (Int.ofNat 2) (Int.ofNat 5) = false from rfl, show eqQ (Int.ofNat 2) (Int.ofNat 6) = false from rfl, show eqQ (Int.ofNat 2) (Int.ofNat 7) = false from rfl, Abs.iff_true, Abs.iff_false]
  simp only [eqQ_eq, leQ_eq, hf, Int.ofNat_eq_natCast, Int.add_def, Int.mul_def, negSucc_lit, Int.natCast_zero, Int.natCast_one, w1, w2, w3, z3, z4, z5]
  have n1 : 0 ≤ n := by omega
  have n2 : n ≤ 2000 := by omega
  have m1 : (((0 : Nat) : Int) ≤ n) = True := eq_true n1
  have m2 : (n ≤ ((2000 : Nat) : Int)) = True := eq_true n2
  simp only [iff_ite, Bool.not_eq_true', decide_eq_false_iff_not, decide_eq_true_eq, beq_self_eq_true, Bool.not_true, Bool.false_eq_true, if_false, if_true, beq_iff_eq, beq_eq_false_iff_ne, n1, n2, m1, m2, not_true_eq_false]
  exact ⟨rfl, fun hN => by simp only [hN, if_true, and_self]⟩
theorem st3 (hQ : Qv a b c d f) (hU : Uv a b c d f g i j k l) (hn : n = 0) : r15_5 a b c d f g i j k l (Int.ofNat 3) n = (if Uv a b c d f (g) (i) (j + 1) (k) (l) then 0 else 18) ∧ (Uv a b c d f (g) (i) (j + 1) (k) (l) → r15_0 a b c d f g i j k l (Int.ofNat 3) n = g ∧ r15_1 a b c d f g i j k l (Int.ofNat 3) n = i ∧ r15_2 a b c d f g i j k l (Int.ofNat 3) n = j + 1 ∧ r15_3 a b c d f g i j k l (Int.ofNat 3) n = k ∧ r15_4 a b c d f g i j k l (Int.ofNat 3) n = l) := by
  have h13 : r13_0 a b c d f g i j k l = 0 := by rw [val13, if_pos ⟨hQ, hU⟩]
  have hQ' := hQ
  have hU' := hU
  unfold Qv at hQ'
  unfold Uv at hU'
  have w1 : wrapQ .i64 (0 * n) = 0 := by rw [Int.zero_mul]; exact wrapQ64 (by omega) (by omega)
  have z1 : wrapQ .i64 (g + 0) = g := by rw [Int.add_zero]; exact wrapQ64 (by omega) (by omega)
  have z2 : wrapQ .i64 (i + 0) = i := by rw [Int.add_zero]; exact wrapQ64 (by omega) (by omega)
  have z4 : wrapQ .i64 (k + 0) = k := by rw [Int.add_zero]; exact wrapQ64 (by omega) (by omega)
  have z5 : wrapQ .i64 (l + 0) = l := by rw [Int.add_zero]; exact wrapQ64 (by omega) (by omega)
  have w2 : wrapQ .i64 (j + 1) = j + 1 := wrapQ64 (by omega) (by omega)
  have hf : ∀ g i j k l, r25_0 a b c d f g i j k l = decide (Uv a b c d f g i j k l) := fun g i j k l => f25 hQ
  simp only [r15_0, r15_1, r15_2, r15_3, r15_4, r15_5, h13, show eqQ (Int.ofNat 3) (Int.ofNat 1) = false from rfl, show eqQ (Int.ofNat 3) (Int.ofNat 2) = false from rfl, show eqQ (Int.ofNat 3) (Int.ofNat 3) = true from rfl, show eqQ (Int.ofNat 3) (Int.ofNat 4) = false from rfl, show eqQ (Int.ofNat 3) (Int.ofNat 5) = false from rfl, show eqQ (Int.ofNat 3) (Int.ofNat 6) = false from rfl, show eqQ (Int.ofNat 3) (Int.ofNat 7) = false from rfl, Abs.iff_true, Abs.iff_false]
  simp only [eqQ_eq, leQ_eq, hf, Int.ofNat_eq_natCast, Int.add_def, Int.mul_def, negSucc_lit, Int.natCast_zero, Int.natCast_one, w1, w2, z1, z2, z4, z5]
  have n1 : 0 ≤ n := by omega
  have n2 : n ≤ 0 := by omega
  have m1 : (((0 : Nat) : Int) ≤ n) = True := eq_true n1
  have m2 : (n ≤ ((0 : Nat) : Int)) = True := eq_true n2
  simp only [iff_ite, Bool.not_eq_true', decide_eq_false_iff_not, decide_eq_true_eq, beq_self_eq_true, Bool.not_true, Bool.false_eq_true, if_false, if_true, beq_iff_eq, beq_eq_false_iff_ne, n1, n2, m1, m2, not_true_eq_false]
  exact ⟨rfl, fun hN => by simp only [hN, if_true, and_self]⟩
theorem st4 (hQ : Qv a b c d f) (hU : Uv a b c d f g i j k l) (hn : 1 ≤ n ∧ n ≤ 9) : r15_5 a b c d f g i j k l (Int.ofNat 4) n = (if Uv a b c d f (g) (i) (j - 1) ((if n = 6 then k + 1 else k)) (l) then 0 else 36) ∧ (Uv a b c d f (g) (i) (j - 1) ((if n = 6 then k + 1 else k)) (l) → r15_0 a b c d f g i j k l (Int.ofNat 4) n = g ∧ r15_1 a b c d f g i j k l (Int.ofNat 4) n = i ∧ r15_2 a b c d f g i j k l (Int.ofNat 4) n = j - 1 ∧ r15_3 a b c d f g i j k l (Int.ofNat 4) n = (if n = 6 then k + 1 else k) ∧ r15_4 a b c d f g i j k l (Int.ofNat 4) n = l) := by
  have h13 : r13_0 a b c d f g i j k l = 0 := by rw [val13, if_pos ⟨hQ, hU⟩]
  have hQ' := hQ
  have hU' := hU
  unfold Qv at hQ'
  unfold Uv at hU'
  have w1 : wrapQ .i64 (0 * n) = 0 := by rw [Int.zero_mul]; exact wrapQ64 (by omega) (by omega)
  have z1 : wrapQ .i64 (g + 0) = g := by rw [Int.add_zero]; exact wrapQ64 (by omega) (by omega)
  have z2 : wrapQ .i64 (i + 0) = i := by rw [Int.add_zero]; exact wrapQ64 (by omega) (by omega)
  have z4 : wrapQ .i64 (k + 0) = k := by rw [Int.add_zero]; exact wrapQ64 (by omega) (by omega)
  have z5 : wrapQ .i64 (l + 0) = l := by rw [Int.add_zero]; exact wrapQ64 (by omega) (by omega)
  have w2 : wrapQ .i64 (j + -1) = j - 1 := wrapQ64 (by omega) (by omega)
  have w4 : wrapQ .i64 (k + 1) = k + 1 := wrapQ64 (by omega) (by omega)
  have hf : ∀ g i j k l, r25_0 a b c d f g i j k l = decide (Uv a b c d f g i j k l) := fun g i j k l => f25 hQ
  simp only [r15_0, r15_1, r15_2, r15_3, r15_4, r15_5, h13, show eqQ (Int.ofNat 4) (Int.ofNat 1) = false from rfl, show eqQ (Int.ofNat 4) (Int.ofNat 2) = false from rfl, show eqQ (Int.ofNat 4) (Int.ofNat 3) = false from rfl, show eqQ (Int.ofNat 4) (Int.ofNat 4) = true from rfl, show eqQ (Int.ofNat 4) (Int.ofNat 5) = false from rfl, show eqQ (Int.ofNat 4) (Int.ofNat 6) = false from rfl, show eqQ (Int.ofNat 4) (Int.ofNat 7) = false from rfl, Abs.iff_true, Abs.iff_false]
  simp only [eqQ_eq, leQ_eq, hf, Int.ofNat_eq_natCast, Int.add_def, Int.mul_def, negSucc_lit, Int.natCast_zero, Int.natCast_one, w1, w2, w4, z1, z2, z4, z5]
  have n1 : 1 ≤ n := by omega
  have n2 : n ≤ 9 := by omega
  have m1 : (((1 : Nat) : Int) ≤ n) = True := eq_true n1
  have m2 : (n ≤ ((9 : Nat) : Int)) = True := eq_true n2
  simp only [iff_ite, Bool.not_eq_true', decide_eq_false_iff_not, decide_eq_true_eq, beq_self_eq_true, Bool.not_true, Bool.false_eq_true, if_false, if_true, beq_iff_eq, beq_eq_false_iff_ne, n1, n2, m1, m2, not_true_eq_false]
  by_cases h6 : n = 6
  · subst h6
    exact ⟨rfl, fun hN => by simp_all⟩
  · have h6' : ¬ n = ((6 : Nat) : Int) := h6
    simp only [h6, h6', if_false]
    exact ⟨rfl, fun hN => by simp only [hN, if_true, and_self]⟩
theorem st5 (hQ : Qv a b c d f) (hU : Uv a b c d f g i j k l) (hn : n = 0) : r15_5 a b c d f g i j k l (Int.ofNat 5) n = (if Uv a b c d f (g) (i) (j) (k - 1) (l) then 0 else 36) ∧ (Uv a b c d f (g) (i) (j) (k - 1) (l) → r15_0 a b c d f g i j k l (Int.ofNat 5) n = g ∧ r15_1 a b c d f g i j k l (Int.ofNat 5) n = i ∧ r15_2 a b c d f g i j k l (Int.ofNat 5) n = j ∧ r15_3 a b c d f g i j k l (Int.ofNat 5) n = k - 1 ∧ r15_4 a b c d f g i j k l (Int.ofNat 5) n = l) := by
  have h13 : r13_0 a b c d f g i j k l = 0 := by rw [val13, if_pos ⟨hQ, hU⟩]
  have hQ' := hQ
  have hU' := hU
  unfold Qv at hQ'
  unfold Uv at hU'
  have w1 : wrapQ .i64 (0 * n) = 0 := by rw [Int.zero_mul]; exact wrapQ64 (by omega) (by omega)
  have z1 : wrapQ .i64 (g + 0) = g := by rw [Int.add_zero]; exact wrapQ64 (by omega) (by omega)
  have z2 : wrapQ .i64 (i + 0) = i := by rw [Int.add_zero]; exact wrapQ64 (by omega) (by omega)
  have z3 : wrapQ .i64 (j + 0) = j := by rw [Int.add_zero]; exact wrapQ64 (by omega) (by omega)
  have z5 : wrapQ .i64 (l + 0) = l := by rw [Int.add_zero]; exact wrapQ64 (by omega) (by omega)
  have w2 : wrapQ .i64 (k + -1) = k - 1 := wrapQ64 (by omega) (by omega)
  have hf : ∀ g i j k l, r25_0 a b c d f g i j k l = decide (Uv a b c d f g i j k l) := fun g i j k l => f25 hQ
  simp only [r15_0, r15_1, r15_2, r15_3, r15_4, r15_5, h13, show eqQ (Int.ofNat 5) (Int.ofNat 1) = false from rfl, show eqQ (Int.ofNat 5) (Int.ofNat 2) = false from rfl, show eqQ (Int.ofNat 5) (Int.ofNat 3) = false from rfl, show eqQ (Int.ofNat 5) (Int.ofNat 4) = false from rfl, show eqQ (Int.ofNat 5) (Int.ofNat 5) = true from rfl, show eqQ (Int.ofNat 5) (Int.ofNat 6) = false from rfl, show eqQ (Int.ofNat 5) (Int.ofNat 7) = false from rfl, Abs.iff_true, Abs.iff_false]
  simp only [eqQ_eq, leQ_eq, hf, Int.ofNat_eq_natCast, Int.add_def, Int.mul_def, negSucc_lit, Int.natCast_zero, Int.natCast_one, w1, w2, z1, z2, z3, z5]
  have n1 : 0 ≤ n := by omega
  have n2 : n ≤ 0 := by omega
  have m1 : (((0 : Nat) : Int) ≤ n) = True := eq_true n1
  have m2 : (n ≤ ((0 : Nat) : Int)) = True := eq_true n2
  simp only [iff_ite, Bool.not_eq_true', decide_eq_false_iff_not, decide_eq_true_eq, beq_self_eq_true, Bool.not_true, Bool.false_eq_true, if_false, if_true, beq_iff_eq, beq_eq_false_iff_ne, n1, n2, m1, m2, not_true_eq_false]
  exact ⟨rfl, fun hN => by simp only [hN, if_true, and_self]⟩
theorem st6 (hQ : Qv a b c d f) (hU : Uv a b c d f g i j k l) (hn : n = 0) : r15_5 a b c d f g i j k l (Int.ofNat 6) n = (if Uv a b c d f (g) (i) (j) (k) (l + 1) then 0 else 18) ∧ (Uv a b c d f (g) (i) (j) (k) (l + 1) → r15_0 a b c d f g i j k l (Int.ofNat 6) n = g ∧ r15_1 a b c d f g i j k l (Int.ofNat 6) n = i ∧ r15_2 a b c d f g i j k l (Int.ofNat 6) n = j ∧ r15_3 a b c d f g i j k l (Int.ofNat 6) n = k ∧ r15_4 a b c d f g i j k l (Int.ofNat 6) n = l + 1) := by
  have h13 : r13_0 a b c d f g i j k l = 0 := by rw [val13, if_pos ⟨hQ, hU⟩]
  have hQ' := hQ
  have hU' := hU
  unfold Qv at hQ'
  unfold Uv at hU'
  have w1 : wrapQ .i64 (0 * n) = 0 := by rw [Int.zero_mul]; exact wrapQ64 (by omega) (by omega)
  have z1 : wrapQ .i64 (g + 0) = g := by rw [Int.add_zero]; exact wrapQ64 (by omega) (by omega)
  have z2 : wrapQ .i64 (i + 0) = i := by rw [Int.add_zero]; exact wrapQ64 (by omega) (by omega)
  have z3 : wrapQ .i64 (j + 0) = j := by rw [Int.add_zero]; exact wrapQ64 (by omega) (by omega)
  have z4 : wrapQ .i64 (k + 0) = k := by rw [Int.add_zero]; exact wrapQ64 (by omega) (by omega)
  have w2 : wrapQ .i64 (l + 1) = l + 1 := wrapQ64 (by omega) (by omega)
  have hf : ∀ g i j k l, r25_0 a b c d f g i j k l = decide (Uv a b c d f g i j k l) := fun g i j k l => f25 hQ
  simp only [r15_0, r15_1, r15_2, r15_3, r15_4, r15_5, h13, show eqQ (Int.ofNat 6) (Int.ofNat 1) = false from rfl, show eqQ (Int.ofNat 6) (Int.ofNat 2) = false from rfl, show eqQ (Int.ofNat 6) (Int.ofNat 3) = false from rfl, show eqQ (Int.ofNat 6) (Int.ofNat 4) = false from rfl, show eqQ (Int.ofNat 6) (Int.ofNat 5) = false from rfl, show eqQ (Int.ofNat 6) (Int.ofNat 6) = true from rfl, show eqQ (Int.ofNat 6) (Int.ofNat 7) = false from rfl, Abs.iff_true, Abs.iff_false]
  simp only [eqQ_eq, leQ_eq, hf, Int.ofNat_eq_natCast, Int.add_def, Int.mul_def, negSucc_lit, Int.natCast_zero, Int.natCast_one, w1, w2, z1, z2, z3, z4]
  have n1 : 0 ≤ n := by omega
  have n2 : n ≤ 0 := by omega
  have m1 : (((0 : Nat) : Int) ≤ n) = True := eq_true n1
  have m2 : (n ≤ ((0 : Nat) : Int)) = True := eq_true n2
  simp only [iff_ite, Bool.not_eq_true', decide_eq_false_iff_not, decide_eq_true_eq, beq_self_eq_true, Bool.not_true, Bool.false_eq_true, if_false, if_true, beq_iff_eq, beq_eq_false_iff_ne, n1, n2, m1, m2, not_true_eq_false]
  exact ⟨rfl, fun hN => by simp only [hN, if_true, and_self]⟩
theorem st7 (hQ : Qv a b c d f) (hU : Uv a b c d f g i j k l) (hn : n = 0) : r15_5 a b c d f g i j k l (Int.ofNat 7) n = (if Uv a b c d f (g) (i) (j) (k) (l - 1) then 0 else 36) ∧ (Uv a b c d f (g) (i) (j) (k) (l - 1) → r15_0 a b c d f g i j k l (Int.ofNat 7) n = g ∧ r15_1 a b c d f g i j k l (Int.ofNat 7) n = i ∧ r15_2 a b c d f g i j k l (Int.ofNat 7) n = j ∧ r15_3 a b c d f g i j k l (Int.ofNat 7) n = k ∧ r15_4 a b c d f g i j k l (Int.ofNat 7) n = l - 1) := by
  have h13 : r13_0 a b c d f g i j k l = 0 := by rw [val13, if_pos ⟨hQ, hU⟩]
  have hQ' := hQ
  have hU' := hU
  unfold Qv at hQ'
  unfold Uv at hU'
  have w1 : wrapQ .i64 (0 * n) = 0 := by rw [Int.zero_mul]; exact wrapQ64 (by omega) (by omega)
  have z1 : wrapQ .i64 (g + 0) = g := by rw [Int.add_zero]; exact wrapQ64 (by omega) (by omega)
  have z2 : wrapQ .i64 (i + 0) = i := by rw [Int.add_zero]; exact wrapQ64 (by omega) (by omega)
  have z3 : wrapQ .i64 (j + 0) = j := by rw [Int.add_zero]; exact wrapQ64 (by omega) (by omega)
  have z4 : wrapQ .i64 (k + 0) = k := by rw [Int.add_zero]; exact wrapQ64 (by omega) (by omega)
  have w2 : wrapQ .i64 (l + -1) = l - 1 := wrapQ64 (by omega) (by omega)
  have hf : ∀ g i j k l, r25_0 a b c d f g i j k l = decide (Uv a b c d f g i j k l) := fun g i j k l => f25 hQ
  simp only [r15_0, r15_1, r15_2, r15_3, r15_4, r15_5, h13, show eqQ (Int.ofNat 7) (Int.ofNat 1) = false from rfl, show eqQ (Int.ofNat 7) (Int.ofNat 2) = false from rfl, show eqQ (Int.ofNat 7) (Int.ofNat 3) = false from rfl, show eqQ (Int.ofNat 7) (Int.ofNat 4) = false from rfl, show eqQ (Int.ofNat 7) (Int.ofNat 5) = false from rfl, show eqQ (Int.ofNat 7) (Int.ofNat 6) = false from rfl, show eqQ (Int.ofNat 7) (Int.ofNat 7) = true from rfl, Abs.iff_true, Abs.iff_false]
  simp only [eqQ_eq, leQ_eq, hf, Int.ofNat_eq_natCast, Int.add_def, Int.mul_def, negSucc_lit, Int.natCast_zero, Int.natCast_one, w1, w2, z1, z2, z3, z4]
  have n1 : 0 ≤ n := by omega
  have n2 : n ≤ 0 := by omega
  have m1 : (((0 : Nat) : Int) ≤ n) = True := eq_true n1
  have m2 : (n ≤ ((0 : Nat) : Int)) = True := eq_true n2
  simp only [iff_ite, Bool.not_eq_true', decide_eq_false_iff_not, decide_eq_true_eq, beq_self_eq_true, Bool.not_true, Bool.false_eq_true, if_false, if_true, beq_iff_eq, beq_eq_false_iff_ne, n1, n2, m1, m2, not_true_eq_false]
  exact ⟨rfl, fun hN => by simp only [hN, if_true, and_self]⟩
theorem stn1 (hQ : Qv a b c d f) (hU : Uv a b c d f g i j k l) (hn : ¬ (0 ≤ n ∧ n ≤ 2000)) : r15_5 a b c d f g i j k l (Int.ofNat 1) n = 2 := by
  have h13 : r13_0 a b c d f g i j k l = 0 := by rw [val13, if_pos ⟨hQ, hU⟩]
  simp only [r15_5, h13, show eqQ (Int.ofNat 1) (Int.ofNat 1) = true from rfl, show eqQ (Int.ofNat 1) (Int.ofNat 2) = false from rfl, show eqQ (Int.ofNat 1) (Int.ofNat 3) = false from rfl, show eqQ (Int.ofNat 1) (Int.ofNat 4) = false from rfl, show eqQ (Int.ofNat 1) (Int.ofNat 5) = false from rfl, show eqQ (Int.ofNat 1) (Int.ofNat 6) = false from rfl, show eqQ (Int.ofNat 1) (Int.ofNat 7) = false from rfl, Abs.iff_true, Abs.iff_false]
  simp only [eqQ_eq, leQ_eq, Int.ofNat_eq_natCast, Int.natCast_zero, iff_ite, Bool.not_eq_true', decide_eq_false_iff_not, beq_self_eq_true, Bool.not_true, Bool.false_eq_true, if_false]
  by_cases n1 : ((0 : Nat) : Int) ≤ n
  · have n2 : ¬ n ≤ ((2000 : Nat) : Int) := fun n2 => hn (by omega)
    simp only [n1, n2, not_true_eq_false, not_false_eq_true, if_true, if_false, Int.natCast_zero] at *
    first | rfl | (split <;> first | rfl | omega)
  · have n1' := n1
    simp only [n1, not_false_eq_true, if_true, Int.natCast_zero] at *
    first | rfl | (split <;> first | rfl | omega)
theorem stn2 (hQ : Qv a b c d f) (hU : Uv a b c d f g i j k l) (hn : ¬ (0 ≤ n ∧ n ≤ 2000)) : r15_5 a b c d f g i j k l (Int.ofNat 2) n = 2 := by
  have h13 : r13_0 a b c d f g i j k l = 0 := by rw [val13, if_pos ⟨hQ, hU⟩]
  simp only [r15_5, h13, show eqQ (Int.ofNat 2) (Int.ofNat 1) = false from rfl, show eqQ (Int.ofNat 2) (Int.ofNat 2) = true from rfl, show eqQ (Int.ofNat 2) (Int.ofNat 3) = false from rfl, show eqQ (Int.ofNat 2) (Int.ofNat 4) = false from rfl, show eqQ (Int.ofNat 2) (Int.ofNat 5) = false from rfl, show eqQ (Int.ofNat 2) (Int.ofNat 6) = false from rfl, show eqQ (Int.ofNat 2) (Int.ofNat 7) = false from rfl, Abs.iff_true, Abs.iff_false]
  simp only [eqQ_eq, leQ_eq, Int.ofNat_eq_natCast, Int.natCast_zero, iff_ite, Bool.not_eq_true', decide_eq_false_iff_not, beq_self_eq_true, Bool.not_true, Bool.false_eq_true, if_false]
  by_cases n1 : ((0 : Nat) : Int) ≤ n
  · have n2 : ¬ n ≤ ((2000 : Nat) : Int) := fun n2 => hn (by omega)
    simp only [n1, n2, not_true_eq_false, not_false_eq_true, if_true, if_false, Int.natCast_zero] at *
    first | rfl | (split <;> first | rfl | omega)
  · have n1' := n1
    simp only [n1, not_false_eq_true, if_true, Int.natCast_zero] at *
    first | rfl | (split <;> first | rfl | omega)
theorem stn3 (hQ : Qv a b c d f) (hU : Uv a b c d f g i j k l) (hn : ¬ (n = 0)) : r15_5 a b c d f g i j k l (Int.ofNat 3) n = 2 := by
  have h13 : r13_0 a b c d f g i j k l = 0 := by rw [val13, if_pos ⟨hQ, hU⟩]
  simp only [r15_5, h13, show eqQ (Int.ofNat 3) (Int.ofNat 1) = false from rfl, show eqQ (Int.ofNat 3) (Int.ofNat 2) = false from rfl, show eqQ (Int.ofNat 3) (Int.ofNat 3) = true from rfl, show eqQ (Int.ofNat 3) (Int.ofNat 4) = false from rfl, show eqQ (Int.ofNat 3) (Int.ofNat 5) = false from rfl, show eqQ (Int.ofNat 3) (Int.ofNat 6) = false from rfl, show eqQ (Int.ofNat 3) (Int.ofNat 7) = false from rfl, Abs.iff_true, Abs.iff_false]
  simp only [eqQ_eq, leQ_eq, Int.ofNat_eq_natCast, Int.natCast_zero, iff_ite, Bool.not_eq_true', decide_eq_false_iff_not, beq_self_eq_true, Bool.not_true, Bool.false_eq_true, if_false]
  by_cases n1 : ((0 : Nat) : Int) ≤ n
  · have n2 : ¬ n ≤ ((0 : Nat) : Int) := fun n2 => hn (by omega)
    simp only [n1, n2, not_true_eq_false, not_false_eq_true, if_true, if_false, Int.natCast_zero] at *
    first | rfl | (split <;> first | rfl | omega)
  · have n1' := n1
    simp only [n1, not_false_eq_true, if_true, Int.natCast_zero] at *
    first | rfl | (split <;> first | rfl | omega)
theorem stn4 (hQ : Qv a b c d f) (hU : Uv a b c d f g i j k l) (hn : ¬ (1 ≤ n ∧ n ≤ 9)) : r15_5 a b c d f g i j k l (Int.ofNat 4) n = 2 := by
  have h13 : r13_0 a b c d f g i j k l = 0 := by rw [val13, if_pos ⟨hQ, hU⟩]
  simp only [r15_5, h13, show eqQ (Int.ofNat 4) (Int.ofNat 1) = false from rfl, show eqQ (Int.ofNat 4) (Int.ofNat 2) = false from rfl, show eqQ (Int.ofNat 4) (Int.ofNat 3) = false from rfl, show eqQ (Int.ofNat 4) (Int.ofNat 4) = true from rfl, show eqQ (Int.ofNat 4) (Int.ofNat 5) = false from rfl, show eqQ (Int.ofNat 4) (Int.ofNat 6) = false from rfl, show eqQ (Int.ofNat 4) (Int.ofNat 7) = false from rfl, Abs.iff_true, Abs.iff_false]
  simp only [eqQ_eq, leQ_eq, Int.ofNat_eq_natCast, Int.natCast_zero, iff_ite, Bool.not_eq_true', decide_eq_false_iff_not, beq_self_eq_true, Bool.not_true, Bool.false_eq_true, if_false]
  by_cases n1 : ((1 : Nat) : Int) ≤ n
  · have n2 : ¬ n ≤ ((9 : Nat) : Int) := fun n2 => hn (by omega)
    simp only [n1, n2, not_true_eq_false, not_false_eq_true, if_true, if_false, Int.natCast_zero] at *
    first | rfl | (split <;> first | rfl | omega)
  · have n1' := n1
    simp only [n1, not_false_eq_true, if_true, Int.natCast_zero] at *
    first | rfl | (split <;> first | rfl | omega)
theorem stn5 (hQ : Qv a b c d f) (hU : Uv a b c d f g i j k l) (hn : ¬ (n = 0)) : r15_5 a b c d f g i j k l (Int.ofNat 5) n = 2 := by
  have h13 : r13_0 a b c d f g i j k l = 0 := by rw [val13, if_pos ⟨hQ, hU⟩]
  simp only [r15_5, h13, show eqQ (Int.ofNat 5) (Int.ofNat 1) = false from rfl, show eqQ (Int.ofNat 5) (Int.ofNat 2) = false from rfl, show eqQ (Int.ofNat 5) (Int.ofNat 3) = false from rfl, show eqQ (Int.ofNat 5) (Int.ofNat 4) = false from rfl, show eqQ (Int.ofNat 5) (Int.ofNat 5) = true from rfl, show eqQ (Int.ofNat 5) (Int.ofNat 6) = false from rfl, show eqQ (Int.ofNat 5) (Int.ofNat 7) = false from rfl, Abs.iff_true, Abs.iff_false]
  simp only [eqQ_eq, leQ_eq, Int.ofNat_eq_natCast, Int.natCast_zero, iff_ite, Bool.not_eq_true', decide_eq_false_iff_not, beq_self_eq_true, Bool.not_true, Bool.false_eq_true, if_false]
  by_cases n1 : ((0 : Nat) : Int) ≤ n
  · have n2 : ¬ n ≤ ((0 : Nat) : Int) := fun n2 => hn (by omega)
    simp only [n1, n2, not_true_eq_false, not_false_eq_true, if_true, if_false, Int.natCast_zero] at *
    first | rfl | (split <;> first | rfl | omega)
  · have n1' := n1
    simp only [n1, not_false_eq_true, if_true, Int.natCast_zero] at *
    first | rfl | (split <;> first | rfl | omega)
theorem stn6 (hQ : Qv a b c d f) (hU : Uv a b c d f g i j k l) (hn : ¬ (n = 0)) : r15_5 a b c d f g i j k l (Int.ofNat 6) n = 2 := by
  have h13 : r13_0 a b c d f g i j k l = 0 := by rw [val13, if_pos ⟨hQ, hU⟩]
  simp only [r15_5, h13, show eqQ (Int.ofNat 6) (Int.ofNat 1) = false from rfl, show eqQ (Int.ofNat 6) (Int.ofNat 2) = false from rfl, show eqQ (Int.ofNat 6) (Int.ofNat 3) = false from rfl, show eqQ (Int.ofNat 6) (Int.ofNat 4) = false from rfl, show eqQ (Int.ofNat 6) (Int.ofNat 5) = false from rfl, show eqQ (Int.ofNat 6) (Int.ofNat 6) = true from rfl, show eqQ (Int.ofNat 6) (Int.ofNat 7) = false from rfl, Abs.iff_true, Abs.iff_false]
  simp only [eqQ_eq, leQ_eq, Int.ofNat_eq_natCast, Int.natCast_zero, iff_ite, Bool.not_eq_true', decide_eq_false_iff_not, beq_self_eq_true, Bool.not_true, Bool.false_eq_true, if_false]
  by_cases n1 : ((0 : Nat) : Int) ≤ n
  · have n2 : ¬ n ≤ ((0 : Nat) : Int) := fun n2 => hn (by omega)
    simp only [n1, n2, not_true_eq_false, not_false_eq_true, if_true, if_false, Int.natCast_zero] at *
    first | rfl | (split <;> first | rfl | omega)
  · have n1' := n1
    simp only [n1, not_false_eq_true, if_true, Int.natCast_zero] at *
    first | rfl | (split <;> first | rfl | omega)
theorem stn7 (hQ : Qv a b c d f) (hU : Uv a b c d f g i j k l) (hn : ¬ (n = 0)) : r15_5 a b c d f g i j k l (Int.ofNat 7) n = 2 := by
  have h13 : r13_0 a b c d f g i j k l = 0 := by rw [val13, if_pos ⟨hQ, hU⟩]
  simp only [r15_5, h13, show eqQ (Int.ofNat 7) (Int.ofNat 1) = false from rfl, show eqQ (Int.ofNat 7) (Int.ofNat 2) = false from rfl, show eqQ (Int.ofNat 7) (Int.ofNat 3) = false from rfl, show eqQ (Int.ofNat 7) (Int.ofNat 4) = false from rfl, show eqQ (Int.ofNat 7) (Int.ofNat 5) = false from rfl, show eqQ (Int.ofNat 7) (Int.ofNat 6) = false from rfl, show eqQ (Int.ofNat 7) (Int.ofNat 7) = true from rfl, Abs.iff_true, Abs.iff_false]
  simp only [eqQ_eq, leQ_eq, Int.ofNat_eq_natCast, Int.natCast_zero, iff_ite, Bool.not_eq_true', decide_eq_false_iff_not, beq_self_eq_true, Bool.not_true, Bool.false_eq_true, if_false]
  by_cases n1 : ((0 : Nat) : Int) ≤ n
  · have n2 : ¬ n ≤ ((0 : Nat) : Int) := fun n2 => hn (by omega)
    simp only [n1, n2, not_true_eq_false, not_false_eq_true, if_true, if_false, Int.natCast_zero] at *
    first | rfl | (split <;> first | rfl | omega)
  · have n1' := n1
    simp only [n1, not_false_eq_true, if_true, Int.natCast_zero] at *
    first | rfl | (split <;> first | rfl | omega)
theorem stOther {m : Int} (hQ : Qv a b c d f) (hU : Uv a b c d f g i j k l) (hm : m < 1 ∨ 7 < m) : r15_5 a b c d f g i j k l m n = 2 := by
  have h13 : r13_0 a b c d f g i j k l = 0 := by rw [val13, if_pos ⟨hQ, hU⟩]
  have e : ∀ x : Nat, 1 ≤ x → x ≤ 7 → eqQ m (Int.ofNat x) = false := fun x h1 h2 => by
    rw [eqQ_eq]
    exact beq_eq_false_iff_ne.2 (fun h => by have : m = (x : Int) := h; omega)
  simp only [r15_5, h13, e 1 (by omega) (by omega), e 2 (by omega) (by omega), e 3 (by omega) (by omega), e 4 (by omega) (by omega), e 5 (by omega) (by omega), e 6 (by omega) (by omega), e 7 (by omega) (by omega), Abs.iff_false]
  simp only [eqQ_eq, leQ_eq, Int.ofNat_eq_natCast, Int.natCast_zero, iff_ite, Bool.not_eq_true', decide_eq_false_iff_not, beq_self_eq_true, Bool.not_true, Bool.false_eq_true, if_false]
  first | rfl | (split <;> first | rfl | omega)
end Go.Proofs.YtkadjjicakinbaaDoor
