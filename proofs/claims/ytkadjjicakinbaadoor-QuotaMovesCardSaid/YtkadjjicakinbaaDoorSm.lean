/- The reference's words and the program's: the same numbers, so the same specifications. -/
import Derived.Test.YtkadjjicakinbaaDoorSt
import Derived.Test.YtkadjjicakinbaaDoorMachC
set_option maxRecDepth 100000
namespace Go.Proofs.YtkadjjicakinbaaDoor
open Go Go.Abs
variable {a b c d f g i j k l n : Int}
theorem iff_id {α : Type} (b : Bool) (x : α) : Abs.iff b x x = x := by cases b <;> rfl
theorem same11 : r12_0 a b c d f = r11_0 a b c d f := c12.trans c11.symm
theorem same13 : r14_0 a b c d f g i j k l = r13_0 a b c d f g i j k l := val14.trans val13.symm
theorem same25 (hQ : Qv a b c d f) (g i j k l : Int) : r25_0 a b c d f g i j k l = r26_0 a b c d f g i j k l := (f25 hQ).trans (f26 hQ).symm
/-- the numbers of a step agree -/
def SameStep (a b c d f g i j k l m n : Int) : Prop := r16_0 a b c d f g i j k l m n = r15_0 a b c d f g i j k l m n ∧ r16_1 a b c d f g i j k l m n = r15_1 a b c d f g i j k l m n ∧ r16_2 a b c d f g i j k l m n = r15_2 a b c d f g i j k l m n ∧ r16_3 a b c d f g i j k l m n = r15_3 a b c d f g i j k l m n ∧ r16_4 a b c d f g i j k l m n = r15_4 a b c d f g i j k l m n ∧ r16_5 a b c d f g i j k l m n = r15_5 a b c d f g i j k l m n
theorem same_bad (h : ¬ (Qv a b c d f ∧ Uv a b c d f g i j k l)) (m n : Int) : SameStep a b c d f g i j k l m n := by
  have h13 : (!eqQ (r13_0 a b c d f g i j k l) (Int.ofNat 0)) = true := by rw [val13, if_neg h]; rfl
  simp only [SameStep, r15_0, r16_0, r15_1, r16_1, r15_2, r16_2, r15_3, r16_3, r15_4, r16_4, r15_5, r16_5, same13, h13, Abs.iff_true, iff_id, and_self]
theorem same_1 (hQ : Qv a b c d f) (hU : Uv a b c d f g i j k l) (n : Int) : SameStep a b c d f g i j k l (Int.ofNat 1) n := by
  have h13 : (!eqQ (r13_0 a b c d f g i j k l) (Int.ofNat 0)) = false := by rw [val13, if_pos ⟨hQ, hU⟩]; rfl
  have hQ' := hQ
  have hU' := hU
  unfold Qv at hQ'
  unfold Uv at hU'
  have z1 : wrapQ .i64 (Int.add g (Int.ofNat 0)) = g := by rw [show Int.add g (Int.ofNat 0) = g from Int.add_zero g]; exact wrapQ64 (by omega) (by omega)
  have z2 : wrapQ .i64 (Int.add i (Int.ofNat 0)) = i := by rw [show Int.add i (Int.ofNat 0) = i from Int.add_zero i]; exact wrapQ64 (by omega) (by omega)
  have z3 : wrapQ .i64 (Int.add j (Int.ofNat 0)) = j := by rw [show Int.add j (Int.ofNat 0) = j from Int.add_zero j]; exact wrapQ64 (by omega) (by omega)
  have z4 : wrapQ .i64 (Int.add k (Int.ofNat 0)) = k := by rw [show Int.add k (Int.ofNat 0) = k from Int.add_zero k]; exact wrapQ64 (by omega) (by omega)
  have z5 : wrapQ .i64 (Int.add l (Int.ofNat 0)) = l := by rw [show Int.add l (Int.ofNat 0) = l from Int.add_zero l]; exact wrapQ64 (by omega) (by omega)
  have m0 : wrapQ .i64 (Int.mul (Int.ofNat 0) n) = Int.ofNat 0 := by rw [show Int.mul (Int.ofNat 0) n = 0 from Int.zero_mul n]; rfl
  have s1 : ∀ x : Int, Int.add x (Int.negSucc 0) = Int.sub x (Int.ofNat 1) := fun x => rfl
  by_cases hn : 0 ≤ n ∧ n ≤ 2000
  · have n1 : leQ (Int.ofNat 0) n = true := by rw [leQ_eq]; exact decide_eq_true hn.1
    have n2 : leQ n (Int.ofNat 2000) = true := by rw [leQ_eq]; exact decide_eq_true hn.2
    have m1 : wrapQ .i64 (Int.mul (Int.ofNat 1) n) = n := by rw [show Int.mul (Int.ofNat 1) n = n from Int.one_mul n]; exact wrapQ64 (by omega) (by omega)
    have m2 : wrapQ .i64 (Int.mul (Int.negSucc 0) n) = -n := by rw [show Int.mul (Int.negSucc 0) n = -n from Int.neg_one_mul n]; exact wrapQ64 (by omega) (by omega)
    have s2 : Int.add i (-n) = Int.sub i n := rfl
    simp only [SameStep, r15_0, r16_0, r15_1, r16_1, r15_2, r16_2, r15_3, r16_3, r15_4, r16_4, r15_5, r16_5, r29_0, r30_0, r30_1, r30_2, r30_3, r30_4, r30_5, same13, h13, show eqQ (Int.ofNat 1) (Int.ofNat 1) = true from rfl, show eqQ (Int.ofNat 1) (Int.ofNat 2) = false from rfl, show eqQ (Int.ofNat 1) (Int.ofNat 3) = false from rfl, show eqQ (Int.ofNat 1) (Int.ofNat 4) = false from rfl, show eqQ (Int.ofNat 1) (Int.ofNat 5) = false from rfl, show eqQ (Int.ofNat 1) (Int.ofNat 6) = false from rfl, show eqQ (Int.ofNat 1) (Int.ofNat 7) = false from rfl, Abs.iff_true, Abs.iff_false, Bool.not_true, Bool.not_false, iff_id, n1, n2, m1, m2, z1, z2, z3, z4, z5, s1, s2, same25 hQ]
    generalize r26_0 a b c d f _ _ _ _ _ = B
    cases B <;> exact ⟨rfl, rfl, rfl, rfl, rfl, rfl⟩
  · by_cases h1 : 0 ≤ n
    · have n1 : leQ (Int.ofNat 0) n = true := by rw [leQ_eq]; exact decide_eq_true h1
      have n2 : leQ n (Int.ofNat 2000) = false := by rw [leQ_eq]; exact decide_eq_false (fun h => hn ⟨h1, h⟩)
      simp only [SameStep, r15_0, r16_0, r15_1, r16_1, r15_2, r16_2, r15_3, r16_3, r15_4, r16_4, r15_5, r16_5, r29_0, r30_0, r30_1, r30_2, r30_3, r30_4, r30_5, same13, h13, show eqQ (Int.ofNat 1) (Int.ofNat 1) = true from rfl, show eqQ (Int.ofNat 1) (Int.ofNat 2) = false from rfl, show eqQ (Int.ofNat 1) (Int.ofNat 3) = false from rfl, show eqQ (Int.ofNat 1) (Int.ofNat 4) = false from rfl, show eqQ (Int.ofNat 1) (Int.ofNat 5) = false from rfl, show eqQ (Int.ofNat 1) (Int.ofNat 6) = false from rfl, show eqQ (Int.ofNat 1) (Int.ofNat 7) = false from rfl, Abs.iff_true, Abs.iff_false, Bool.not_true, Bool.not_false, iff_id, n1, n2, and_self]
    · have n1 : leQ (Int.ofNat 0) n = false := by rw [leQ_eq]; exact decide_eq_false h1
      simp only [SameStep, r15_0, r16_0, r15_1, r16_1, r15_2, r16_2, r15_3, r16_3, r15_4, r16_4, r15_5, r16_5, r29_0, r30_0, r30_1, r30_2, r30_3, r30_4, r30_5, same13, h13, show eqQ (Int.ofNat 1) (Int.ofNat 1) = true from rfl, show eqQ (Int.ofNat 1) (Int.ofNat 2) = false from rfl, show eqQ (Int.ofNat 1) (Int.ofNat 3) = false from rfl, show eqQ (Int.ofNat 1) (Int.ofNat 4) = false from rfl, show eqQ (Int.ofNat 1) (Int.ofNat 5) = false from rfl, show eqQ (Int.ofNat 1) (Int.ofNat 6) = false from rfl, show eqQ (Int.ofNat 1) (Int.ofNat 7) = false from rfl, Abs.iff_true, Abs.iff_false, Bool.not_true, Bool.not_false, iff_id, n1, and_self]
theorem same_2 (hQ : Qv a b c d f) (hU : Uv a b c d f g i j k l) (n : Int) : SameStep a b c d f g i j k l (Int.ofNat 2) n := by
  have h13 : (!eqQ (r13_0 a b c d f g i j k l) (Int.ofNat 0)) = false := by rw [val13, if_pos ⟨hQ, hU⟩]; rfl
  have hQ' := hQ
  have hU' := hU
  unfold Qv at hQ'
  unfold Uv at hU'
  have z1 : wrapQ .i64 (Int.add g (Int.ofNat 0)) = g := by rw [show Int.add g (Int.ofNat 0) = g from Int.add_zero g]; exact wrapQ64 (by omega) (by omega)
  have z2 : wrapQ .i64 (Int.add i (Int.ofNat 0)) = i := by rw [show Int.add i (Int.ofNat 0) = i from Int.add_zero i]; exact wrapQ64 (by omega) (by omega)
  have z3 : wrapQ .i64 (Int.add j (Int.ofNat 0)) = j := by rw [show Int.add j (Int.ofNat 0) = j from Int.add_zero j]; exact wrapQ64 (by omega) (by omega)
  have z4 : wrapQ .i64 (Int.add k (Int.ofNat 0)) = k := by rw [show Int.add k (Int.ofNat 0) = k from Int.add_zero k]; exact wrapQ64 (by omega) (by omega)
  have z5 : wrapQ .i64 (Int.add l (Int.ofNat 0)) = l := by rw [show Int.add l (Int.ofNat 0) = l from Int.add_zero l]; exact wrapQ64 (by omega) (by omega)
  have m0 : wrapQ .i64 (Int.mul (Int.ofNat 0) n) = Int.ofNat 0 := by rw [show Int.mul (Int.ofNat 0) n = 0 from Int.zero_mul n]; rfl
  have s1 : ∀ x : Int, Int.add x (Int.negSucc 0) = Int.sub x (Int.ofNat 1) := fun x => rfl
  by_cases hn : 0 ≤ n ∧ n ≤ 2000
  · have n1 : leQ (Int.ofNat 0) n = true := by rw [leQ_eq]; exact decide_eq_true hn.1
    have n2 : leQ n (Int.ofNat 2000) = true := by rw [leQ_eq]; exact decide_eq_true hn.2
    have m1 : wrapQ .i64 (Int.mul (Int.ofNat 1) n) = n := by rw [show Int.mul (Int.ofNat 1) n = n from Int.one_mul n]; exact wrapQ64 (by omega) (by omega)
    have m2 : wrapQ .i64 (Int.mul (Int.negSucc 0) n) = -n := by rw [show Int.mul (Int.negSucc 0) n = -n from Int.neg_one_mul n]; exact wrapQ64 (by omega) (by omega)
    have s2 : Int.add i (-n) = Int.sub i n := rfl
    simp only [SameStep, r15_0, r16_0, r15_1, r16_1, r15_2, r16_2, r15_3, r16_3, r15_4, r16_4, r15_5, r16_5, r29_0, r30_0, r30_1, r30_2, r30_3, r30_4, r30_5, same13, h13, show eqQ (Int.ofNat 2) (Int.ofNat 1) = false from rfl, show eqQ (Int.ofNat 2) (Int.ofNat 2) = true from rfl, show eqQ (Int.ofNat 2) (Int.ofNat 3) = false from rfl, show eqQ (Int.ofNat 2) (Int.ofNat 4) = false from rfl, show eqQ (Int.ofNat 2) (Int.ofNat 5) = false from rfl, show eqQ (Int.ofNat 2) (Int.ofNat 6) = false from rfl, show eqQ (Int.ofNat 2) (Int.ofNat 7) = false from rfl, Abs.iff_true, Abs.iff_false, Bool.not_true, Bool.not_false, iff_id, n1, n2, m1, m2, z1, z2, z3, z4, z5, s1, s2, same25 hQ]
    generalize r26_0 a b c d f _ _ _ _ _ = B
    cases B <;> exact ⟨rfl, rfl, rfl, rfl, rfl, rfl⟩
  · by_cases h1 : 0 ≤ n
    · have n1 : leQ (Int.ofNat 0) n = true := by rw [leQ_eq]; exact decide_eq_true h1
      have n2 : leQ n (Int.ofNat 2000) = false := by rw [leQ_eq]; exact decide_eq_false (fun h => hn ⟨h1, h⟩)
      simp only [SameStep, r15_0, r16_0, r15_1, r16_1, r15_2, r16_2, r15_3, r16_3, r15_4, r16_4, r15_5, r16_5, r29_0, r30_0, r30_1, r30_2, r30_3, r30_4, r30_5, same13, h13, show eqQ (Int.ofNat 2) (Int.ofNat 1) = false from rfl, show eqQ (Int.ofNat 2) (Int.ofNat 2) = true from rfl, show eqQ (Int.ofNat 2) (Int.ofNat 3) = false from rfl, show eqQ (Int.ofNat 2) (Int.ofNat 4) = false from rfl, show eqQ (Int.ofNat 2) (Int.ofNat 5) = false from rfl, show eqQ (Int.ofNat 2) (Int.ofNat 6) = false from rfl, show eqQ (Int.ofNat 2) (Int.ofNat 7) = false from rfl, Abs.iff_true, Abs.iff_false, Bool.not_true, Bool.not_false, iff_id, n1, n2, and_self]
    · have n1 : leQ (Int.ofNat 0) n = false := by rw [leQ_eq]; exact decide_eq_false h1
      simp only [SameStep, r15_0, r16_0, r15_1, r16_1, r15_2, r16_2, r15_3, r16_3, r15_4, r16_4, r15_5, r16_5, r29_0, r30_0, r30_1, r30_2, r30_3, r30_4, r30_5, same13, h13, show eqQ (Int.ofNat 2) (Int.ofNat 1) = false from rfl, show eqQ (Int.ofNat 2) (Int.ofNat 2) = true from rfl, show eqQ (Int.ofNat 2) (Int.ofNat 3) = false from rfl, show eqQ (Int.ofNat 2) (Int.ofNat 4) = false from rfl, show eqQ (Int.ofNat 2) (Int.ofNat 5) = false from rfl, show eqQ (Int.ofNat 2) (Int.ofNat 6) = false from rfl, show eqQ (Int.ofNat 2) (Int.ofNat 7) = false from rfl, Abs.iff_true, Abs.iff_false, Bool.not_true, Bool.not_false, iff_id, n1, and_self]
theorem same_3 (hQ : Qv a b c d f) (hU : Uv a b c d f g i j k l) (n : Int) : SameStep a b c d f g i j k l (Int.ofNat 3) n := by
  have h13 : (!eqQ (r13_0 a b c d f g i j k l) (Int.ofNat 0)) = false := by rw [val13, if_pos ⟨hQ, hU⟩]; rfl
  have hQ' := hQ
  have hU' := hU
  unfold Qv at hQ'
  unfold Uv at hU'
  have z1 : wrapQ .i64 (Int.add g (Int.ofNat 0)) = g := by rw [show Int.add g (Int.ofNat 0) = g from Int.add_zero g]; exact wrapQ64 (by omega) (by omega)
  have z2 : wrapQ .i64 (Int.add i (Int.ofNat 0)) = i := by rw [show Int.add i (Int.ofNat 0) = i from Int.add_zero i]; exact wrapQ64 (by omega) (by omega)
  have z3 : wrapQ .i64 (Int.add j (Int.ofNat 0)) = j := by rw [show Int.add j (Int.ofNat 0) = j from Int.add_zero j]; exact wrapQ64 (by omega) (by omega)
  have z4 : wrapQ .i64 (Int.add k (Int.ofNat 0)) = k := by rw [show Int.add k (Int.ofNat 0) = k from Int.add_zero k]; exact wrapQ64 (by omega) (by omega)
  have z5 : wrapQ .i64 (Int.add l (Int.ofNat 0)) = l := by rw [show Int.add l (Int.ofNat 0) = l from Int.add_zero l]; exact wrapQ64 (by omega) (by omega)
  have m0 : wrapQ .i64 (Int.mul (Int.ofNat 0) n) = Int.ofNat 0 := by rw [show Int.mul (Int.ofNat 0) n = 0 from Int.zero_mul n]; rfl
  have s1 : ∀ x : Int, Int.add x (Int.negSucc 0) = Int.sub x (Int.ofNat 1) := fun x => rfl
  by_cases hn : n = Int.ofNat 0
  · subst hn
    simp only [SameStep, r15_0, r16_0, r15_1, r16_1, r15_2, r16_2, r15_3, r16_3, r15_4, r16_4, r15_5, r16_5, r29_0, r30_0, r30_1, r30_2, r30_3, r30_4, r30_5, same13, h13, show eqQ (Int.ofNat 3) (Int.ofNat 1) = false from rfl, show eqQ (Int.ofNat 3) (Int.ofNat 2) = false from rfl, show eqQ (Int.ofNat 3) (Int.ofNat 3) = true from rfl, show eqQ (Int.ofNat 3) (Int.ofNat 4) = false from rfl, show eqQ (Int.ofNat 3) (Int.ofNat 5) = false from rfl, show eqQ (Int.ofNat 3) (Int.ofNat 6) = false from rfl, show eqQ (Int.ofNat 3) (Int.ofNat 7) = false from rfl, Abs.iff_true, Abs.iff_false, Bool.not_true, Bool.not_false, iff_id, show leQ (Int.ofNat 0) (Int.ofNat 0) = true from rfl, show eqQ (Int.ofNat 0) (Int.ofNat 0) = true from rfl, show eqQ (Int.ofNat 0) (Int.ofNat 6) = false from rfl, m0, z1, z2, z3, z4, z5, s1, same25 hQ]
    generalize r26_0 a b c d f _ _ _ _ _ = B
    cases B <;> exact ⟨rfl, rfl, rfl, rfl, rfl, rfl⟩
  · have n0 : eqQ n (Int.ofNat 0) = false := by rw [eqQ_eq]; exact beq_eq_false_iff_ne.2 hn
    have hn' : ¬ n = 0 := hn
    by_cases h1 : 0 ≤ n
    · have n1 : leQ (Int.ofNat 0) n = true := by rw [leQ_eq]; exact decide_eq_true h1
      have n2 : leQ n (Int.ofNat 0) = false := by rw [leQ_eq]; exact decide_eq_false (fun h => by have : n ≤ 0 := h; omega)
      simp only [SameStep, r15_0, r16_0, r15_1, r16_1, r15_2, r16_2, r15_3, r16_3, r15_4, r16_4, r15_5, r16_5, r29_0, r30_0, r30_1, r30_2, r30_3, r30_4, r30_5, same13, h13, show eqQ (Int.ofNat 3) (Int.ofNat 1) = false from rfl, show eqQ (Int.ofNat 3) (Int.ofNat 2) = false from rfl, show eqQ (Int.ofNat 3) (Int.ofNat 3) = true from rfl, show eqQ (Int.ofNat 3) (Int.ofNat 4) = false from rfl, show eqQ (Int.ofNat 3) (Int.ofNat 5) = false from rfl, show eqQ (Int.ofNat 3) (Int.ofNat 6) = false from rfl, show eqQ (Int.ofNat 3) (Int.ofNat 7) = false from rfl, Abs.iff_true, Abs.iff_false, Bool.not_true, Bool.not_false, iff_id, n0, n1, n2, and_self]
    · have n1 : leQ (Int.ofNat 0) n = false := by rw [leQ_eq]; exact decide_eq_false h1
      simp only [SameStep, r15_0, r16_0, r15_1, r16_1, r15_2, r16_2, r15_3, r16_3, r15_4, r16_4, r15_5, r16_5, r29_0, r30_0, r30_1, r30_2, r30_3, r30_4, r30_5, same13, h13, show eqQ (Int.ofNat 3) (Int.ofNat 1) = false from rfl, show eqQ (Int.ofNat 3) (Int.ofNat 2) = false from rfl, show eqQ (Int.ofNat 3) (Int.ofNat 3) = true from rfl, show eqQ (Int.ofNat 3) (Int.ofNat 4) = false from rfl, show eqQ (Int.ofNat 3) (Int.ofNat 5) = false from rfl, show eqQ (Int.ofNat 3) (Int.ofNat 6) = false from rfl, show eqQ (Int.ofNat 3) (Int.ofNat 7) = false from rfl, Abs.iff_true, Abs.iff_false, Bool.not_true, Bool.not_false, iff_id, n0, n1, and_self]
theorem same_4 (hQ : Qv a b c d f) (hU : Uv a b c d f g i j k l) (n : Int) : SameStep a b c d f g i j k l (Int.ofNat 4) n := by
  have h13 : (!eqQ (r13_0 a b c d f g i j k l) (Int.ofNat 0)) = false := by rw [val13, if_pos ⟨hQ, hU⟩]; rfl
  have hQ' := hQ
  have hU' := hU
  unfold Qv at hQ'
  unfold Uv at hU'
  have z1 : wrapQ .i64 (Int.add g (Int.ofNat 0)) = g := by rw [show Int.add g (Int.ofNat 0) = g from Int.add_zero g]; exact wrapQ64 (by omega) (by omega)
  have z2 : wrapQ .i64 (Int.add i (Int.ofNat 0)) = i := by rw [show Int.add i (Int.ofNat 0) = i from Int.add_zero i]; exact wrapQ64 (by omega) (by omega)
  have z3 : wrapQ .i64 (Int.add j (Int.ofNat 0)) = j := by rw [show Int.add j (Int.ofNat 0) = j from Int.add_zero j]; exact wrapQ64 (by omega) (by omega)
  have z4 : wrapQ .i64 (Int.add k (Int.ofNat 0)) = k := by rw [show Int.add k (Int.ofNat 0) = k from Int.add_zero k]; exact wrapQ64 (by omega) (by omega)
  have z5 : wrapQ .i64 (Int.add l (Int.ofNat 0)) = l := by rw [show Int.add l (Int.ofNat 0) = l from Int.add_zero l]; exact wrapQ64 (by omega) (by omega)
  have m0 : wrapQ .i64 (Int.mul (Int.ofNat 0) n) = Int.ofNat 0 := by rw [show Int.mul (Int.ofNat 0) n = 0 from Int.zero_mul n]; rfl
  have s1 : ∀ x : Int, Int.add x (Int.negSucc 0) = Int.sub x (Int.ofNat 1) := fun x => rfl
  by_cases hn : 1 ≤ n ∧ n ≤ 9
  · have n1 : leQ (Int.ofNat 1) n = true := by rw [leQ_eq]; exact decide_eq_true hn.1
    have n2 : leQ n (Int.ofNat 9) = true := by rw [leQ_eq]; exact decide_eq_true hn.2
    have m1 : wrapQ .i64 (Int.mul (Int.ofNat 1) n) = n := by rw [show Int.mul (Int.ofNat 1) n = n from Int.one_mul n]; exact wrapQ64 (by omega) (by omega)
    have m2 : wrapQ .i64 (Int.mul (Int.negSucc 0) n) = -n := by rw [show Int.mul (Int.negSucc 0) n = -n from Int.neg_one_mul n]; exact wrapQ64 (by omega) (by omega)
    have s2 : Int.add i (-n) = Int.sub i n := rfl
    cases h6 : eqQ n (Int.ofNat 6) with
    | true =>
      simp only [SameStep, r15_0, r16_0, r15_1, r16_1, r15_2, r16_2, r15_3, r16_3, r15_4, r16_4, r15_5, r16_5, r29_0, r30_0, r30_1, r30_2, r30_3, r30_4, r30_5, same13, h13, show eqQ (Int.ofNat 4) (Int.ofNat 1) = false from rfl, show eqQ (Int.ofNat 4) (Int.ofNat 2) = false from rfl, show eqQ (Int.ofNat 4) (Int.ofNat 3) = false from rfl, show eqQ (Int.ofNat 4) (Int.ofNat 4) = true from rfl, show eqQ (Int.ofNat 4) (Int.ofNat 5) = false from rfl, show eqQ (Int.ofNat 4) (Int.ofNat 6) = false from rfl, show eqQ (Int.ofNat 4) (Int.ofNat 7) = false from rfl, Abs.iff_true, Abs.iff_false, Bool.not_true, Bool.not_false, iff_id, n1, n2, m0, z1, z2, z3, z4, z5, s1, h6, same25 hQ]
      generalize r26_0 a b c d f _ _ _ _ _ = B
      cases B <;> exact ⟨rfl, rfl, rfl, rfl, rfl, rfl⟩
    | false =>
      simp only [SameStep, r15_0, r16_0, r15_1, r16_1, r15_2, r16_2, r15_3, r16_3, r15_4, r16_4, r15_5, r16_5, r29_0, r30_0, r30_1, r30_2, r30_3, r30_4, r30_5, same13, h13, show eqQ (Int.ofNat 4) (Int.ofNat 1) = false from rfl, show eqQ (Int.ofNat 4) (Int.ofNat 2) = false from rfl, show eqQ (Int.ofNat 4) (Int.ofNat 3) = false from rfl, show eqQ (Int.ofNat 4) (Int.ofNat 4) = true from rfl, show eqQ (Int.ofNat 4) (Int.ofNat 5) = false from rfl, show eqQ (Int.ofNat 4) (Int.ofNat 6) = false from rfl, show eqQ (Int.ofNat 4) (Int.ofNat 7) = false from rfl, Abs.iff_true, Abs.iff_false, Bool.not_true, Bool.not_false, iff_id, n1, n2, m0, z1, z2, z3, z4, z5, s1, h6, same25 hQ]
      generalize r26_0 a b c d f _ _ _ _ _ = B
      cases B <;> exact ⟨rfl, rfl, rfl, rfl, rfl, rfl⟩
  · by_cases h1 : 1 ≤ n
    · have n1 : leQ (Int.ofNat 1) n = true := by rw [leQ_eq]; exact decide_eq_true h1
      have n2 : leQ n (Int.ofNat 9) = false := by rw [leQ_eq]; exact decide_eq_false (fun h => hn ⟨h1, h⟩)
      simp only [SameStep, r15_0, r16_0, r15_1, r16_1, r15_2, r16_2, r15_3, r16_3, r15_4, r16_4, r15_5, r16_5, r29_0, r30_0, r30_1, r30_2, r30_3, r30_4, r30_5, same13, h13, show eqQ (Int.ofNat 4) (Int.ofNat 1) = false from rfl, show eqQ (Int.ofNat 4) (Int.ofNat 2) = false from rfl, show eqQ (Int.ofNat 4) (Int.ofNat 3) = false from rfl, show eqQ (Int.ofNat 4) (Int.ofNat 4) = true from rfl, show eqQ (Int.ofNat 4) (Int.ofNat 5) = false from rfl, show eqQ (Int.ofNat 4) (Int.ofNat 6) = false from rfl, show eqQ (Int.ofNat 4) (Int.ofNat 7) = false from rfl, Abs.iff_true, Abs.iff_false, Bool.not_true, Bool.not_false, iff_id, n1, n2, and_self]
    · have n1 : leQ (Int.ofNat 1) n = false := by rw [leQ_eq]; exact decide_eq_false h1
      simp only [SameStep, r15_0, r16_0, r15_1, r16_1, r15_2, r16_2, r15_3, r16_3, r15_4, r16_4, r15_5, r16_5, r29_0, r30_0, r30_1, r30_2, r30_3, r30_4, r30_5, same13, h13, show eqQ (Int.ofNat 4) (Int.ofNat 1) = false from rfl, show eqQ (Int.ofNat 4) (Int.ofNat 2) = false from rfl, show eqQ (Int.ofNat 4) (Int.ofNat 3) = false from rfl, show eqQ (Int.ofNat 4) (Int.ofNat 4) = true from rfl, show eqQ (Int.ofNat 4) (Int.ofNat 5) = false from rfl, show eqQ (Int.ofNat 4) (Int.ofNat 6) = false from rfl, show eqQ (Int.ofNat 4) (Int.ofNat 7) = false from rfl, Abs.iff_true, Abs.iff_false, Bool.not_true, Bool.not_false, iff_id, n1, and_self]
theorem same_5 (hQ : Qv a b c d f) (hU : Uv a b c d f g i j k l) (n : Int) : SameStep a b c d f g i j k l (Int.ofNat 5) n := by
  have h13 : (!eqQ (r13_0 a b c d f g i j k l) (Int.ofNat 0)) = false := by rw [val13, if_pos ⟨hQ, hU⟩]; rfl
  have hQ' := hQ
  have hU' := hU
  unfold Qv at hQ'
  unfold Uv at hU'
  have z1 : wrapQ .i64 (Int.add g (Int.ofNat 0)) = g := by rw [show Int.add g (Int.ofNat 0) = g from Int.add_zero g]; exact wrapQ64 (by omega) (by omega)
  have z2 : wrapQ .i64 (Int.add i (Int.ofNat 0)) = i := by rw [show Int.add i (Int.ofNat 0) = i from Int.add_zero i]; exact wrapQ64 (by omega) (by omega)
  have z3 : wrapQ .i64 (Int.add j (Int.ofNat 0)) = j := by rw [show Int.add j (Int.ofNat 0) = j from Int.add_zero j]; exact wrapQ64 (by omega) (by omega)
  have z4 : wrapQ .i64 (Int.add k (Int.ofNat 0)) = k := by rw [show Int.add k (Int.ofNat 0) = k from Int.add_zero k]; exact wrapQ64 (by omega) (by omega)
  have z5 : wrapQ .i64 (Int.add l (Int.ofNat 0)) = l := by rw [show Int.add l (Int.ofNat 0) = l from Int.add_zero l]; exact wrapQ64 (by omega) (by omega)
  have m0 : wrapQ .i64 (Int.mul (Int.ofNat 0) n) = Int.ofNat 0 := by rw [show Int.mul (Int.ofNat 0) n = 0 from Int.zero_mul n]; rfl
  have s1 : ∀ x : Int, Int.add x (Int.negSucc 0) = Int.sub x (Int.ofNat 1) := fun x => rfl
  by_cases hn : n = Int.ofNat 0
  · subst hn
    simp only [SameStep, r15_0, r16_0, r15_1, r16_1, r15_2, r16_2, r15_3, r16_3, r15_4, r16_4, r15_5, r16_5, r29_0, r30_0, r30_1, r30_2, r30_3, r30_4, r30_5, same13, h13, show eqQ (Int.ofNat 5) (Int.ofNat 1) = false from rfl, show eqQ (Int.ofNat 5) (Int.ofNat 2) = false from rfl, show eqQ (Int.ofNat 5) (Int.ofNat 3) = false from rfl, show eqQ (Int.ofNat 5) (Int.ofNat 4) = false from rfl, show eqQ (Int.ofNat 5) (Int.ofNat 5) = true from rfl, show eqQ (Int.ofNat 5) (Int.ofNat 6) = false from rfl, show eqQ (Int.ofNat 5) (Int.ofNat 7) = false from rfl, Abs.iff_true, Abs.iff_false, Bool.not_true, Bool.not_false, iff_id, show leQ (Int.ofNat 0) (Int.ofNat 0) = true from rfl, show eqQ (Int.ofNat 0) (Int.ofNat 0) = true from rfl, show eqQ (Int.ofNat 0) (Int.ofNat 6) = false from rfl, m0, z1, z2, z3, z4, z5, s1, same25 hQ]
    generalize r26_0 a b c d f _ _ _ _ _ = B
    cases B <;> exact ⟨rfl, rfl, rfl, rfl, rfl, rfl⟩
  · have n0 : eqQ n (Int.ofNat 0) = false := by rw [eqQ_eq]; exact beq_eq_false_iff_ne.2 hn
    have hn' : ¬ n = 0 := hn
    by_cases h1 : 0 ≤ n
    · have n1 : leQ (Int.ofNat 0) n = true := by rw [leQ_eq]; exact decide_eq_true h1
      have n2 : leQ n (Int.ofNat 0) = false := by rw [leQ_eq]; exact decide_eq_false (fun h => by have : n ≤ 0 := h; omega)
      simp only [SameStep, r15_0, r16_0, r15_1, r16_1, r15_2, r16_2, r15_3, r16_3, r15_4, r16_4, r15_5, r16_5, r29_0, r30_0, r30_1, r30_2, r30_3, r30_4, r30_5, same13, h13, show eqQ (Int.ofNat 5) (Int.ofNat 1) = false from rfl, show eqQ (Int.ofNat 5) (Int.ofNat 2) = false from rfl, show eqQ (Int.ofNat 5) (Int.ofNat 3) = false from rfl, show eqQ (Int.ofNat 5) (Int.ofNat 4) = false from rfl, show eqQ (Int.ofNat 5) (Int.ofNat 5) = true from rfl, show eqQ (Int.ofNat 5) (Int.ofNat 6) = false from rfl, show eqQ (Int.ofNat 5) (Int.ofNat 7) = false from rfl, Abs.iff_true, Abs.iff_false, Bool.not_true, Bool.not_false, iff_id, n0, n1, n2, and_self]
    · have n1 : leQ (Int.ofNat 0) n = false := by rw [leQ_eq]; exact decide_eq_false h1
      simp only [SameStep, r15_0, r16_0, r15_1, r16_1, r15_2, r16_2, r15_3, r16_3, r15_4, r16_4, r15_5, r16_5, r29_0, r30_0, r30_1, r30_2, r30_3, r30_4, r30_5, same13, h13, show eqQ (Int.ofNat 5) (Int.ofNat 1) = false from rfl, show eqQ (Int.ofNat 5) (Int.ofNat 2) = false from rfl, show eqQ (Int.ofNat 5) (Int.ofNat 3) = false from rfl, show eqQ (Int.ofNat 5) (Int.ofNat 4) = false from rfl, show eqQ (Int.ofNat 5) (Int.ofNat 5) = true from rfl, show eqQ (Int.ofNat 5) (Int.ofNat 6) = false from rfl, show eqQ (Int.ofNat 5) (Int.ofNat 7) = false from rfl, Abs.iff_true, Abs.iff_false, Bool.not_true, Bool.not_false, iff_id, n0, n1, and_self]
theorem same_6 (hQ : Qv a b c d f) (hU : Uv a b c d f g i j k l) (n : Int) : SameStep a b c d f g i j k l (Int.ofNat 6) n := by
  have h13 : (!eqQ (r13_0 a b c d f g i j k l) (Int.ofNat 0)) = false := by rw [val13, if_pos ⟨hQ, hU⟩]; rfl
  have hQ' := hQ
  have hU' := hU
  unfold Qv at hQ'
  unfold Uv at hU'
  have z1 : wrapQ .i64 (Int.add g (Int.ofNat 0)) = g := by rw [show Int.add g (Int.ofNat 0) = g from Int.add_zero g]; exact wrapQ64 (by omega) (by omega)
  have z2 : wrapQ .i64 (Int.add i (Int.ofNat 0)) = i := by rw [show Int.add i (Int.ofNat 0) = i from Int.add_zero i]; exact wrapQ64 (by omega) (by omega)
  have z3 : wrapQ .i64 (Int.add j (Int.ofNat 0)) = j := by rw [show Int.add j (Int.ofNat 0) = j from Int.add_zero j]; exact wrapQ64 (by omega) (by omega)
  have z4 : wrapQ .i64 (Int.add k (Int.ofNat 0)) = k := by rw [show Int.add k (Int.ofNat 0) = k from Int.add_zero k]; exact wrapQ64 (by omega) (by omega)
  have z5 : wrapQ .i64 (Int.add l (Int.ofNat 0)) = l := by rw [show Int.add l (Int.ofNat 0) = l from Int.add_zero l]; exact wrapQ64 (by omega) (by omega)
  have m0 : wrapQ .i64 (Int.mul (Int.ofNat 0) n) = Int.ofNat 0 := by rw [show Int.mul (Int.ofNat 0) n = 0 from Int.zero_mul n]; rfl
  have s1 : ∀ x : Int, Int.add x (Int.negSucc 0) = Int.sub x (Int.ofNat 1) := fun x => rfl
  by_cases hn : n = Int.ofNat 0
  · subst hn
    simp only [SameStep, r15_0, r16_0, r15_1, r16_1, r15_2, r16_2, r15_3, r16_3, r15_4, r16_4, r15_5, r16_5, r29_0, r30_0, r30_1, r30_2, r30_3, r30_4, r30_5, same13, h13, show eqQ (Int.ofNat 6) (Int.ofNat 1) = false from rfl, show eqQ (Int.ofNat 6) (Int.ofNat 2) = false from rfl, show eqQ (Int.ofNat 6) (Int.ofNat 3) = false from rfl, show eqQ (Int.ofNat 6) (Int.ofNat 4) = false from rfl, show eqQ (Int.ofNat 6) (Int.ofNat 5) = false from rfl, show eqQ (Int.ofNat 6) (Int.ofNat 6) = true from rfl, show eqQ (Int.ofNat 6) (Int.ofNat 7) = false from rfl, Abs.iff_true, Abs.iff_false, Bool.not_true, Bool.not_false, iff_id, show leQ (Int.ofNat 0) (Int.ofNat 0) = true from rfl, show eqQ (Int.ofNat 0) (Int.ofNat 0) = true from rfl, show eqQ (Int.ofNat 0) (Int.ofNat 6) = false from rfl, m0, z1, z2, z3, z4, z5, s1, same25 hQ]
    generalize r26_0 a b c d f _ _ _ _ _ = B
    cases B <;> exact ⟨rfl, rfl, rfl, rfl, rfl, rfl⟩
  · have n0 : eqQ n (Int.ofNat 0) = false := by rw [eqQ_eq]; exact beq_eq_false_iff_ne.2 hn
    have hn' : ¬ n = 0 := hn
    by_cases h1 : 0 ≤ n
    · have n1 : leQ (Int.ofNat 0) n = true := by rw [leQ_eq]; exact decide_eq_true h1
      have n2 : leQ n (Int.ofNat 0) = false := by rw [leQ_eq]; exact decide_eq_false (fun h => by have : n ≤ 0 := h; omega)
      simp only [SameStep, r15_0, r16_0, r15_1, r16_1, r15_2, r16_2, r15_3, r16_3, r15_4, r16_4, r15_5, r16_5, r29_0, r30_0, r30_1, r30_2, r30_3, r30_4, r30_5, same13, h13, show eqQ (Int.ofNat 6) (Int.ofNat 1) = false from rfl, show eqQ (Int.ofNat 6) (Int.ofNat 2) = false from rfl, show eqQ (Int.ofNat 6) (Int.ofNat 3) = false from rfl, show eqQ (Int.ofNat 6) (Int.ofNat 4) = false from rfl, show eqQ (Int.ofNat 6) (Int.ofNat 5) = false from rfl, show eqQ (Int.ofNat 6) (Int.ofNat 6) = true from rfl, show eqQ (Int.ofNat 6) (Int.ofNat 7) = false from rfl, Abs.iff_true, Abs.iff_false, Bool.not_true, Bool.not_false, iff_id, n0, n1, n2, and_self]
    · have n1 : leQ (Int.ofNat 0) n = false := by rw [leQ_eq]; exact decide_eq_false h1
      simp only [SameStep, r15_0, r16_0, r15_1, r16_1, r15_2, r16_2, r15_3, r16_3, r15_4, r16_4, r15_5, r16_5, r29_0, r30_0, r30_1, r30_2, r30_3, r30_4, r30_5, same13, h13, show eqQ (Int.ofNat 6) (Int.ofNat 1) = false from rfl, show eqQ (Int.ofNat 6) (Int.ofNat 2) = false from rfl, show eqQ (Int.ofNat 6) (Int.ofNat 3) = false from rfl, show eqQ (Int.ofNat 6) (Int.ofNat 4) = false from rfl, show eqQ (Int.ofNat 6) (Int.ofNat 5) = false from rfl, show eqQ (Int.ofNat 6) (Int.ofNat 6) = true from rfl, show eqQ (Int.ofNat 6) (Int.ofNat 7) = false from rfl, Abs.iff_true, Abs.iff_false, Bool.not_true, Bool.not_false, iff_id, n0, n1, and_self]
theorem same_7 (hQ : Qv a b c d f) (hU : Uv a b c d f g i j k l) (n : Int) : SameStep a b c d f g i j k l (Int.ofNat 7) n := by
  have h13 : (!eqQ (r13_0 a b c d f g i j k l) (Int.ofNat 0)) = false := by rw [val13, if_pos ⟨hQ, hU⟩]; rfl
  have hQ' := hQ
  have hU' := hU
  unfold Qv at hQ'
  unfold Uv at hU'
  have z1 : wrapQ .i64 (Int.add g (Int.ofNat 0)) = g := by rw [show Int.add g (Int.ofNat 0) = g from Int.add_zero g]; exact wrapQ64 (by omega) (by omega)
  have z2 : wrapQ .i64 (Int.add i (Int.ofNat 0)) = i := by rw [show Int.add i (Int.ofNat 0) = i from Int.add_zero i]; exact wrapQ64 (by omega) (by omega)
  have z3 : wrapQ .i64 (Int.add j (Int.ofNat 0)) = j := by rw [show Int.add j (Int.ofNat 0) = j from Int.add_zero j]; exact wrapQ64 (by omega) (by omega)
  have z4 : wrapQ .i64 (Int.add k (Int.ofNat 0)) = k := by rw [show Int.add k (Int.ofNat 0) = k from Int.add_zero k]; exact wrapQ64 (by omega) (by omega)
  have z5 : wrapQ .i64 (Int.add l (Int.ofNat 0)) = l := by rw [show Int.add l (Int.ofNat 0) = l from Int.add_zero l]; exact wrapQ64 (by omega) (by omega)
  have m0 : wrapQ .i64 (Int.mul (Int.ofNat 0) n) = Int.ofNat 0 := by rw [show Int.mul (Int.ofNat 0) n = 0 from Int.zero_mul n]; rfl
  have s1 : ∀ x : Int, Int.add x (Int.negSucc 0) = Int.sub x (Int.ofNat 1) := fun x => rfl
  by_cases hn : n = Int.ofNat 0
  · subst hn
    simp only [SameStep, r15_0, r16_0, r15_1, r16_1, r15_2, r16_2, r15_3, r16_3, r15_4, r16_4, r15_5, r16_5, r29_0, r30_0, r30_1, r30_2, r30_3, r30_4, r30_5, same13, h13, show eqQ (Int.ofNat 7) (Int.ofNat 1) = false from rfl, show eqQ (Int.ofNat 7) (Int.ofNat 2) = false from rfl, show eqQ (Int.ofNat 7) (Int.ofNat 3) = false from rfl, show eqQ (Int.ofNat 7) (Int.ofNat 4) = false from rfl, show eqQ (Int.ofNat 7) (Int.ofNat 5) = false from rfl, show eqQ (Int.ofNat 7) (Int.ofNat 6) = false from rfl, show eqQ (Int.ofNat 7) (Int.ofNat 7) = true from rfl, Abs.iff_true, Abs.iff_false, Bool.not_true, Bool.not_false, iff_id, show leQ (Int.ofNat 0) (Int.ofNat 0) = true from rfl, show eqQ (Int.ofNat 0) (Int.ofNat 0) = true from rfl, show eqQ (Int.ofNat 0) (Int.ofNat 6) = false from rfl, m0, z1, z2, z3, z4, z5, s1, same25 hQ]
    generalize r26_0 a b c d f _ _ _ _ _ = B
    cases B <;> exact ⟨rfl, rfl, rfl, rfl, rfl, rfl⟩
  · have n0 : eqQ n (Int.ofNat 0) = false := by rw [eqQ_eq]; exact beq_eq_false_iff_ne.2 hn
    have hn' : ¬ n = 0 := hn
    by_cases h1 : 0 ≤ n
    · have n1 : leQ (Int.ofNat 0) n = true := by rw [leQ_eq]; exact decide_eq_true h1
      have n2 : leQ n (Int.ofNat 0) = false := by rw [leQ_eq]; exact decide_eq_false (fun h => by have : n ≤ 0 := h; omega)
      simp only [SameStep, r15_0, r16_0, r15_1, r16_1, r15_2, r16_2, r15_3, r16_3, r15_4, r16_4, r15_5, r16_5, r29_0, r30_0, r30_1, r30_2, r30_3, r30_4, r30_5, same13, h13, show eqQ (Int.ofNat 7) (Int.ofNat 1) = false from rfl, show eqQ (Int.ofNat 7) (Int.ofNat 2) = false from rfl, show eqQ (Int.ofNat 7) (Int.ofNat 3) = false from rfl, show eqQ (Int.ofNat 7) (Int.ofNat 4) = false from rfl, show eqQ (Int.ofNat 7) (Int.ofNat 5) = false from rfl, show eqQ (Int.ofNat 7) (Int.ofNat 6) = false from rfl, show eqQ (Int.ofNat 7) (Int.ofNat 7) = true from rfl, Abs.iff_true, Abs.iff_false, Bool.not_true, Bool.not_false, iff_id, n0, n1, n2, and_self]
    · have n1 : leQ (Int.ofNat 0) n = false := by rw [leQ_eq]; exact decide_eq_false h1
      simp only [SameStep, r15_0, r16_0, r15_1, r16_1, r15_2, r16_2, r15_3, r16_3, r15_4, r16_4, r15_5, r16_5, r29_0, r30_0, r30_1, r30_2, r30_3, r30_4, r30_5, same13, h13, show eqQ (Int.ofNat 7) (Int.ofNat 1) = false from rfl, show eqQ (Int.ofNat 7) (Int.ofNat 2) = false from rfl, show eqQ (Int.ofNat 7) (Int.ofNat 3) = false from rfl, show eqQ (Int.ofNat 7) (Int.ofNat 4) = false from rfl, show eqQ (Int.ofNat 7) (Int.ofNat 5) = false from rfl, show eqQ (Int.ofNat 7) (Int.ofNat 6) = false from rfl, show eqQ (Int.ofNat 7) (Int.ofNat 7) = true from rfl, Abs.iff_true, Abs.iff_false, Bool.not_true, Bool.not_false, iff_id, n0, n1, and_self]
theorem same_other {m : Int} (hQ : Qv a b c d f) (hU : Uv a b c d f g i j k l) (hm : m < 1 ∨ 7 < m) (n : Int) : SameStep a b c d f g i j k l m n := by
  have h13 : (!eqQ (r13_0 a b c d f g i j k l) (Int.ofNat 0)) = false := by rw [val13, if_pos ⟨hQ, hU⟩]; rfl
  have e : ∀ x : Nat, 1 ≤ x → x ≤ 7 → eqQ m (Int.ofNat x) = false := fun x h1 h2 => by
    rw [eqQ_eq]
    exact beq_eq_false_iff_ne.2 (fun h => by have : m = (x : Int) := h; omega)
  simp only [SameStep, r15_0, r16_0, r15_1, r16_1, r15_2, r16_2, r15_3, r16_3, r15_4, r16_4, r15_5, r16_5, r29_0, r30_0, r30_1, r30_2, r30_3, r30_4, r30_5, same13, h13, e 1 (by omega) (by omega), e 2 (by omega) (by omega), e 3 (by omega) (by omega), e 4 (by omega) (by omega), e 5 (by omega) (by omega), e 6 (by omega) (by omega), e 7 (by omega) (by omega), Abs.iff_true, Abs.iff_false, Bool.not_true, Bool.not_false, iff_id, and_self]
theorem same15 (a b c d f g i j k l m n : Int) : SameStep a b c d f g i j k l m n := by
  by_cases hV : Qv a b c d f ∧ Uv a b c d f g i j k l
  · obtain ⟨hQ, hU⟩ := hV
    by_cases hm : m < 1 ∨ 7 < m
    · exact same_other hQ hU hm n
    · have h7 : m = 1 ∨ m = 2 ∨ m = 3 ∨ m = 4 ∨ m = 5 ∨ m = 6 ∨ m = 7 := by omega
      rcases h7 with rfl | rfl | rfl | rfl | rfl | rfl | rfl
      · exact same_1 hQ hU n
      · exact same_2 hQ hU n
      · exact same_3 hQ hU n
      · exact same_4 hQ hU n
      · exact same_5 hQ hU n
      · exact same_6 hQ hU n
      · exact same_7 hQ hU n
  · exact same_bad hV m n
theorem same17 : r18_0 a b c d f g i j k l = r17_0 a b c d f g i j k l ∧ r18_1 a b c d f g i j k l = r17_1 a b c d f g i j k l := by
  refine ⟨?_, by rw [r18_1, r17_1, same13]⟩
  by_cases hV : Qv a b c d f ∧ Uv a b c d f g i j k l
  · have h13 : (!eqQ (r13_0 a b c d f g i j k l) (Int.ofNat 0)) = false := by rw [val13, if_pos hV]; rfl
    obtain ⟨hQ, hU⟩ := hV
    unfold Qv at hQ
    unfold Uv at hU
    have w1 : wrapQ .i64 (Int.sub d k) = d - k := wrapQ64 (by show _ ≤ d - k; omega) (by show d - k ≤ _; omega)
    have w2 : wrapQ .i64 (Int.sub c j) = c - j := wrapQ64 (by show _ ≤ c - j; omega) (by show c - j ≤ _; omega)
    have w3 : wrapQ .i64 (Int.sub d j) = d - j := wrapQ64 (by show _ ≤ d - j; omega) (by show d - j ≤ _; omega)
    have w4 : wrapQ .i64 (Int.sub (d - j) k) = d - j - k := wrapQ64 (by show _ ≤ d - j - k; omega) (by show d - j - k ≤ _; omega)
    rw [r18_0, r17_0, same13, h13, Abs.iff_false, Abs.iff_false, w1, w2, w3, w4, iff_ite, iff_ite, leQ_eq, leQ_eq]
    by_cases h : c ≤ d - k
    · rw [if_pos (decide_eq_true (by omega)), if_pos (decide_eq_true h), w2]
    · have w5 : wrapQ .i64 (Int.sub (d - k) j) = d - k - j := wrapQ64 (by show _ ≤ d - k - j; omega) (by show d - k - j ≤ _; omega)
      rw [if_neg (by rw [decide_eq_true_eq]; omega), if_neg (by rw [decide_eq_true_eq]; exact h), w5]
      omega
  · have h13 : (!eqQ (r13_0 a b c d f g i j k l) (Int.ofNat 0)) = true := by rw [val13, if_neg hV]; rfl
    rw [r18_0, r17_0, same13, h13, Abs.iff_true, Abs.iff_true]
theorem sameV15 (a b c d f g i j k l m n : Int) : v16 a b c d f g i j k l m n = v15 a b c d f g i j k l m n := by
  obtain ⟨h0, h1, h2, h3, h4, h5⟩ := same15 a b c d f g i j k l m n
  rw [v16, v15, h0, h1, h2, h3, h4, h5]
theorem _root_.Go.Abs.SpecSim.le {P : Program} {Gl : Globs} {f : FuncId} {s s' : SpecF} (h : SpecSim P Gl f s) (hle : ∀ args σ p, s' args σ = some p → s args σ = some p) : SpecSim P Gl f s' :=
  ⟨fun args σ v σ' e => h.1 args σ v σ' (hle _ _ _ e), fun args σ v σ' e => h.2 args σ v σ' (hle _ _ _ e)⟩
theorem le12 : s12 = s11 := by
  unfold s12 s11
  simp only [v12, v11, same11]
theorem le14 : s14 = s13 := by
  unfold s14 s13
  simp only [v14, v13, same13]
theorem le18 : s18 = s17 := by
  unfold s18 s17
  simp only [v18, v17, same17.1, same17.2]
theorem sim12 : SpecSim Tryd.prog noG 12 s11 := le12 ▸ s12_sim
theorem sim14 : SpecSim Tryd.prog noG 14 s13 := le14 ▸ s14_sim
theorem sim18 : SpecSim Tryd.prog noG 18 s17 := le18 ▸ s18_sim
theorem eq16 : s16 = fun args σ => andThen2 (gCons args) fun a0 q0 => andThen2 (gCons q0) fun a1 q1 => andThen2 (gCons q1) fun a2 q2 => andThen (gNil q2) fun _ => andThen (asA a0) fun l0 => andThen2 (gCons l0) fun c0_0 q0_0 => andThen (gI IntKind.i64 c0_0) fun x0_0 => andThen2 (gCons q0_0) fun c0_1 q0_1 => andThen (gI IntKind.i64 c0_1) fun x0_1 => andThen2 (gCons q0_1) fun c0_2 q0_2 => andThen (gI IntKind.i64 c0_2) fun x0_2 => andThen2 (gCons q0_2) fun c0_3 q0_3 => andThen (gI IntKind.i64 c0_3) fun x0_3 => andThen2 (gCons q0_3) fun c0_4 q0_4 => andThen (gI IntKind.i64 c0_4) fun x0_4 => andThen (gNil q0_4) fun _ => andThen (asA a1) fun l1 => andThen2 (gCons l1) fun c1_0 q1_0 => andThen (gI IntKind.i64 c1_0) fun x1_0 => andThen2 (gCons q1_0) fun c1_1 q1_1 => andThen (gI IntKind.i64 c1_1) fun x1_1 => andThen2 (gCons q1_1) fun c1_2 q1_2 => andThen (gI IntKind.i64 c1_2) fun x1_2 => andThen2 (gCons q1_2) fun c1_3 q1_3 => andThen (gI IntKind.i64 c1_3) fun x1_3 => andThen2 (gCons q1_3) fun c1_4 q1_4 => andThen (gI IntKind.i64 c1_4) fun x1_4 => andThen (gNil q1_4) fun _ => andThen (asA a2) fun l2 => andThen2 (gCons l2) fun c2_0 q2_0 => andThen (gI IntKind.u8 c2_0) fun x2_0 => andThen2 (gCons q2_0) fun c2_1 q2_1 => andThen (gI IntKind.i64 c2_1) fun x2_1 => andThen (gNil q2_1) fun _ => some (v15 x0_0 x0_1 x0_2 x0_3 x0_4 x1_0 x1_1 x1_2 x1_3 x1_4 x2_0 x2_1, σ) := by
  unfold s16
  simp only [sameV15]
theorem sim16 : SpecSim Tryd.prog Tb.glob 16 s15 := (s16_sim.mono fun g h => by cases h).le fun args σ p h => by
  rw [eq16]
  unfold s15 at h
  obtain ⟨a0, q0, h0, h⟩ := andThen2_eq h
  obtain ⟨a1, q1, h1, h⟩ := andThen2_eq h
  obtain ⟨a2, q2, h2, h⟩ := andThen2_eq h
  obtain ⟨u3, h3, h⟩ := andThen_eq h
  obtain ⟨l0, h4, h⟩ := andThen_eq h
  obtain ⟨c0_0, q0_0, h5, h⟩ := andThen2_eq h
  obtain ⟨x0_0, h6, h⟩ := andThen_eq h
  obtain ⟨c0_1, q0_1, h7, h⟩ := andThen2_eq h
  obtain ⟨x0_1, h8, h⟩ := andThen_eq h
  obtain ⟨c0_2, q0_2, h9, h⟩ := andThen2_eq h
  obtain ⟨x0_2, h10, h⟩ := andThen_eq h
  obtain ⟨c0_3, q0_3, h11, h⟩ := andThen2_eq h
  obtain ⟨x0_3, h12, h⟩ := andThen_eq h
  obtain ⟨c0_4, q0_4, h13, h⟩ := andThen2_eq h
  obtain ⟨x0_4, h14, h⟩ := andThen_eq h
  obtain ⟨u15, h15, h⟩ := andThen_eq h
  obtain ⟨l1, h16, h⟩ := andThen_eq h
  obtain ⟨c1_0, q1_0, h17, h⟩ := andThen2_eq h
  obtain ⟨x1_0, h18, h⟩ := andThen_eq h
  obtain ⟨c1_1, q1_1, h19, h⟩ := andThen2_eq h
  obtain ⟨x1_1, h20, h⟩ := andThen_eq h
  obtain ⟨c1_2, q1_2, h21, h⟩ := andThen2_eq h
  obtain ⟨x1_2, h22, h⟩ := andThen_eq h
  obtain ⟨c1_3, q1_3, h23, h⟩ := andThen2_eq h
  obtain ⟨x1_3, h24, h⟩ := andThen_eq h
  obtain ⟨c1_4, q1_4, h25, h⟩ := andThen2_eq h
  obtain ⟨x1_4, h26, h⟩ := andThen_eq h
  obtain ⟨u27, h27, h⟩ := andThen_eq h
  obtain ⟨l2, h28, h⟩ := andThen_eq h
  obtain ⟨c2_0, q2_0, h29, h⟩ := andThen2_eq h
  obtain ⟨x2_0, h30, h⟩ := andThen_eq h
  obtain ⟨c2_1, q2_1, h31, h⟩ := andThen2_eq h
  obtain ⟨x2_1, h32, h⟩ := andThen_eq h
  obtain ⟨u33, h33, h⟩ := andThen_eq h
  obtain ⟨_, h⟩ := iff_some h
  simp only [h0, h1, h2, h3, h4, h5, h6, h7, h8, h9, h10, h11, h12, h13, h14, h15, h16, h17, h18, h19, h20, h21, h22, h23, h24, h25, h26, h27, h28, h29, h30, h31, h32, h33, andThen_some, andThen2_some, h]
end Go.Proofs.YtkadjjicakinbaaDoor
