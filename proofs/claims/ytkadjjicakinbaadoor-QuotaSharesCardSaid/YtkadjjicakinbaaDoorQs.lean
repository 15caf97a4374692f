/- QuotaShares returns true at every start, for every configuration. -/
import Derived.Test.YtkadjjicakinbaaDoorSh
import Derived.Test.YtkadjjicakinbaaDoorMachC
set_option maxRecDepth 100000
namespace Go.Proofs.YtkadjjicakinbaaDoor
open Go Go.Abs
namespace Shares
variable (a b c d e f g h i : Int)
theorem conf : r22_0 a b c d e f g h i = decide (1 ≤ a ∧ a ≤ 3 ∧ 1 ≤ b ∧ b ≤ 4 ∧ 1 ≤ c ∧ c ≤ 40 ∧ 1 ≤ d ∧ d ≤ 8 ∧ 1 ≤ e ∧ e ≤ 8 ∧ 1 ≤ f ∧ f ≤ 8 ∧ 1 ≤ g ∧ g ≤ 4 ∧ 1 ≤ h ∧ h ≤ 4 ∧ 1 ≤ i ∧ i ≤ 8) := by
  simp only [r22_0, r24_0, iff_and, leQ_eq, Bool.and_assoc, Bool.decide_and, Int.ofNat_eq_natCast]
  rfl
theorem e0 : r20_0 a b c d e f g h i = Abs.iff (r22_0 a b c d e f g h i) f 0 := by simp only [r20_0, r22_0, r24_0, iff_notz, iff_nest, iff_and, Bool.and_assoc]; rfl
theorem e1 : r20_1 a b c d e f g h i = Abs.iff (r22_0 a b c d e f g h i) (wrapQ .i64 (2000 * f)) 0 := by simp only [r20_1, r22_0, r24_0, iff_notz, iff_nest, iff_and, Bool.and_assoc]; rfl
theorem e2 : r20_2 a b c d e f g h i = Abs.iff (r22_0 a b c d e f g h i) (Abs.iff (leQ 1 (wrapQ .i64 (e.tdiv h))) (wrapQ .i64 (e.tdiv h)) 1) 0 := by simp only [r20_2, r22_0, r24_0, iff_notz, iff_nest, iff_and, Bool.and_assoc]; rfl
theorem e3 : r20_3 a b c d e f g h i = Abs.iff (r22_0 a b c d e f g h i) (Abs.iff (leQ 1 (wrapQ .i64 (d.tdiv h))) (wrapQ .i64 (d.tdiv h)) 1) 0 := by simp only [r20_3, r22_0, r24_0, iff_notz, iff_nest, iff_and, Bool.and_assoc]; rfl
theorem e4 : r20_4 a b c d e f g h i = Abs.iff (r22_0 a b c d e f g h i) f 0 := by simp only [r20_4, r22_0, r24_0, iff_notz, iff_nest, iff_and, Bool.and_assoc]; rfl
theorem e5 : r20_5 a b c d e f g h i = Abs.iff (r22_0 a b c d e f g h i) 0 8 := by simp only [r20_5, r22_0, r24_0, iff_notz, iff_nest, iff_and, Bool.and_assoc]; rfl

theorem div_le {x y : Int} (hx : 1 ≤ x) (hy : 1 ≤ y) (hxy : y ≤ x) : 1 ≤ x.tdiv y ∧ x.tdiv y * y ≤ x := by
  rw [Int.tdiv_eq_ediv_of_nonneg (by omega)]
  refine ⟨?_, Int.ediv_mul_le x (by omega)⟩
  exact (Int.le_ediv_iff_mul_le (by omega)).2 (by omega)
theorem div_bd {x y : Int} (hx : 1 ≤ x) (hx8 : x ≤ 8) (hy : 1 ≤ y) : 0 ≤ x.tdiv y ∧ x.tdiv y ≤ 8 := by
  rw [Int.tdiv_eq_ediv_of_nonneg (by omega)]
  exact ⟨Int.ediv_nonneg (by omega) (by omega), Int.le_trans (Int.ediv_le_self _ (by omega)) hx8⟩

theorem true7 : r7_0 a b c d e f g h i = true := by
  by_cases hC : r22_0 a b c d e f g h i = true
  · have hr := hC
    rw [conf, decide_eq_true_eq] at hr
    obtain ⟨ha1, ha2, hb1, hb2, hc1, hc2, hd1, hd2, he1, he2, hf1, hf2, hg1, hg2, hh1, hh2, hi1, hi2⟩ := hr
    obtain ⟨p1, p2⟩ := div_bd he1 he2 hh1
    obtain ⟨q1, q2⟩ := div_bd hd1 hd2 hh1
    have w1 : wrapQ .i64 (e.tdiv h) = e.tdiv h := wrapQ64 (by omega) (by omega)
    have w2 : wrapQ .i64 (d.tdiv h) = d.tdiv h := wrapQ64 (by omega) (by omega)
    have w3 : wrapQ .i64 (2000 * f) = 2000 * f := wrapQ64 (by omega) (by omega)
    generalize hE : (if 1 ≤ e.tdiv h then e.tdiv h else 1) = E
    generalize hD : (if 1 ≤ d.tdiv h then d.tdiv h else 1) = Dd
    have hE1 : 1 ≤ E ∧ E ≤ 8 := by rw [← hE]; split <;> omega
    have hD1 : 1 ≤ Dd ∧ Dd ≤ 8 := by rw [← hD]; split <;> omega
    have s0 : r20_0 a b c d e f g h i = f := by rw [e0, hC]; rfl
    have s1 : r20_1 a b c d e f g h i = 2000 * f := by rw [e1, hC, w3]; rfl
    have s2 : r20_2 a b c d e f g h i = E := by rw [e2, hC, w1, Abs.iff_true, iff_ite, leQ_eq, ← hE]; simp
    have s3 : r20_3 a b c d e f g h i = Dd := by rw [e3, hC, w2, Abs.iff_true, iff_ite, leQ_eq, ← hD]; simp
    have s4 : r20_4 a b c d e f g h i = f := by rw [e4, hC]; rfl
    have s5 : r20_5 a b c d e f g h i = 0 := by rw [e5, hC]; rfl
    have t0 : r21_0 a b c d e f g h i = f := by rw [r21_0, hC]; rfl
    have t1 : r21_1 a b c d e f g h i = 2000 * f := by rw [r21_1, hC]; exact w3
    have t2 : r21_2 a b c d e f g h i = E := by
      rw [r21_2, hC, w1, iff_ite, iff_ite, leQ_eq, ← hE]
      simp only [Bool.not_true, Bool.false_eq_true, if_false, decide_eq_true_eq, Int.ofNat_eq_natCast]
      split <;> split <;> omega
    have t3 : r21_3 a b c d e f g h i = Dd := by
      rw [r21_3, hC, w2, iff_ite, iff_ite, leQ_eq, ← hD]
      simp only [Bool.not_true, Bool.false_eq_true, if_false, decide_eq_true_eq, Int.ofNat_eq_natCast]
      split <;> split <;> omega
    have t4 : r21_4 a b c d e f g h i = f := by rw [r21_4, hC]; rfl
    have t5 : r21_5 a b c d e f g h i = 0 := by rw [r21_5, hC]; rfl
    have hck : r11_0 f (2000 * f) E Dd f = 0 := by
      simp only [r11_0, iff_notz, iff_nest]
      simp only [leQ_eq, Int.ofNat_eq_natCast, iff_ite, Bool.and_eq_true, decide_eq_true_eq]
      rw [if_pos (by omega)]
      rfl
    have m1 : h ≤ e → E * h ≤ e := fun hh => by
      obtain ⟨z1, z2⟩ := div_le he1 hh1 hh
      rw [if_pos z1] at hE
      rw [← hE]; exact z2
    have m2 : h ≤ d → Dd * h ≤ d := fun hh => by
      obtain ⟨z1, z2⟩ := div_le hd1 hh1 hh
      rw [if_pos z1] at hD
      rw [← hD]; exact z2
    have b1 : E * h ≤ 8 * 4 := Int.mul_le_mul hE1.2 hh2 (by omega) (by omega)
    have b2 : Dd * h ≤ 8 * 4 := Int.mul_le_mul hD1.2 hh2 (by omega) (by omega)
    have b3 : 0 ≤ E * h := Int.mul_nonneg (by omega) (by omega)
    have b4 : 0 ≤ Dd * h := Int.mul_nonneg (by omega) (by omega)
    have w4 : wrapQ .i64 (E * h) = E * h := wrapQ64 (by omega) (by omega)
    have w5 : wrapQ .i64 (Dd * h) = Dd * h := wrapQ64 (by omega) (by omega)
    rw [r7_0, s0, s1, s2, s3, s4, s5, t0, t1, t2, t3, t4, t5, hck]
    simp only [Int.mul_def, w4, w5, eqQ_eq, leQ_eq, beq_self_eq_true, Abs.iff_true, Abs.iff_false, Bool.not_true, Int.ofNat_eq_natCast, iff_and, Int.natCast_zero]
    simp only [iff_ite, Bool.not_eq_true', decide_eq_false_iff_not, decide_eq_true_eq, ite_true, Bool.and_true, beq_self_eq_true]
    by_cases k1 : h ≤ e <;> by_cases k2 : h ≤ d <;> simp [k1, k2, m1, m2]
  · rw [Bool.not_eq_true] at hC
    rw [r7_0, e0, e1, e2, e3, e4, e5, r21_0, r21_1, r21_2, r21_3, r21_4, r21_5, hC]
    rfl
end Shares
end Go.Proofs.YtkadjjicakinbaaDoor
