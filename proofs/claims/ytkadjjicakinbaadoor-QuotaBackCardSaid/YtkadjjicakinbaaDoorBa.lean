/- QuotaBack: what it computes is true. -/
import Derived.Test.YtkadjjicakinbaaDoorBk
import Derived.Test.YtkadjjicakinbaaDoorSt
set_option maxRecDepth 100000
namespace Go.Proofs.YtkadjjicakinbaaDoor
open Go Go.Abs
namespace Back
variable {a b c d f g i j k l m n : Int}
theorem eqQ_self (x : Int) : eqQ x x = true := by rw [eqQ_eq]; exact beq_self_eq_true x

/-- a step that does, in the machine's words -/
def Did (a b c d f g i j k l kd n g' i' j' k' l' : Int) : Prop :=
  r15_5 a b c d f g i j k l kd n = Int.ofNat 0 ∧ r15_0 a b c d f g i j k l kd n = g' ∧ r15_1 a b c d f g i j k l kd n = i' ∧ r15_2 a b c d f g i j k l kd n = j' ∧ r15_3 a b c d f g i j k l kd n = k' ∧ r15_4 a b c d f g i j k l kd n = l'

theorem pair1 (hQ : Qv a b c d f) (hU : Uv a b c d f g i j k l) (hm : 0 ≤ m ∧ m ≤ 2000) : r15_5 a b c d f g i j k l (Int.ofNat 1) m = Int.ofNat 18 ∨
    (Did a b c d f g i j k l (Int.ofNat 1) m (g + 1) (i + m) j k l ∧ Did a b c d f (g + 1) (i + m) j k l (Int.ofNat 2) m g i j k l) := by
  have h := st1 hQ hU hm
  by_cases hN : Uv a b c d f (g + 1) (i + m) j k l
  · refine .inr ⟨⟨by rw [h.1, if_pos hN]; rfl, h.2 hN⟩, ?_⟩
    have h2 := st2 hQ hN hm
    rw [show g + 1 - 1 = g by omega, show i + m - m = i by omega] at h2
    exact ⟨by rw [h2.1, if_pos hU]; rfl, h2.2 hU⟩
  · exact .inl (by rw [h.1, if_neg hN]; rfl)

theorem pair2 (hQ : Qv a b c d f) (hU : Uv a b c d f g i j k l) : r15_5 a b c d f g i j k l (Int.ofNat 6) (Int.ofNat 0) = Int.ofNat 18 ∨
    (Did a b c d f g i j k l (Int.ofNat 6) (Int.ofNat 0) g i j k (l + 1) ∧ Did a b c d f g i j k (l + 1) (Int.ofNat 7) (Int.ofNat 0) g i j k l) := by
  have h := st6 hQ hU (n := Int.ofNat 0) rfl
  by_cases hN : Uv a b c d f g i j k (l + 1)
  · refine .inr ⟨⟨by rw [h.1, if_pos hN]; rfl, h.2 hN⟩, ?_⟩
    have h2 := st7 hQ hN (n := Int.ofNat 0) rfl
    rw [show l + 1 - 1 = l by omega] at h2
    exact ⟨by rw [h2.1, if_pos hU]; rfl, h2.2 hU⟩
  · exact .inl (by rw [h.1, if_neg hN]; rfl)

theorem pair3 (hQ : Qv a b c d f) (hU : Uv a b c d f g i j k l) (hn : 1 ≤ n ∧ n ≤ 9) (h6 : n ≠ 6) : r15_5 a b c d f g i j k l (Int.ofNat 3) (Int.ofNat 0) = Int.ofNat 18 ∨
    (Did a b c d f g i j k l (Int.ofNat 3) (Int.ofNat 0) g i (j + 1) k l ∧ Did a b c d f g i (j + 1) k l (Int.ofNat 4) n g i j k l) := by
  have h := st3 hQ hU (n := Int.ofNat 0) rfl
  by_cases hN : Uv a b c d f g i (j + 1) k l
  · refine .inr ⟨⟨by rw [h.1, if_pos hN]; rfl, h.2 hN⟩, ?_⟩
    have h2 := st4 hQ hN hn
    rw [show j + 1 - 1 = j by omega, if_neg h6] at h2
    exact ⟨by rw [h2.1, if_pos hU]; rfl, h2.2 hU⟩
  · exact .inl (by rw [h.1, if_neg hN]; rfl)

theorem pair4 (hQ : Qv a b c d f) (hU : Uv a b c d f g i j k l) : r15_5 a b c d f g i j k l (Int.ofNat 3) (Int.ofNat 0) = Int.ofNat 18 ∨
    (Did a b c d f g i j k l (Int.ofNat 3) (Int.ofNat 0) g i (j + 1) k l ∧ Did a b c d f g i (j + 1) k l (Int.ofNat 4) (Int.ofNat 6) g i j (k + 1) l ∧ Did a b c d f g i j (k + 1) l (Int.ofNat 5) (Int.ofNat 0) g i j k l) := by
  have h := st3 hQ hU (n := Int.ofNat 0) rfl
  by_cases hN : Uv a b c d f g i (j + 1) k l
  · refine .inr ⟨⟨by rw [h.1, if_pos hN]; rfl, h.2 hN⟩, ?_⟩
    have h2 := st4 hQ hN (n := Int.ofNat 6) ⟨by decide, by decide⟩
    rw [show j + 1 - 1 = j by omega, if_pos (show Int.ofNat 6 = 6 from rfl)] at h2
    have hN2 : Uv a b c d f g i j (k + 1) l := by unfold Uv at hN hU ⊢; omega
    have h3 := st5 hQ hN2 (n := Int.ofNat 0) rfl
    rw [show k + 1 - 1 = k by omega] at h3
    exact ⟨⟨by rw [h2.1, if_pos hN2]; rfl, h2.2 hN2⟩, ⟨by rw [h3.1, if_pos hU]; rfl, h3.2 hU⟩⟩
  · exact .inl (by rw [h.1, if_neg hN]; rfl)

theorem z18 : eqQ (Int.ofNat 18) (Int.ofNat 0) = false := by kernel_rfl

theorem true6 : r6_0 a b c d f g i j k l m n = true := by
  by_cases hV : Qv a b c d f ∧ Uv a b c d f g i j k l
  · have h14 : r14_0 a b c d f g i j k l = Int.ofNat 0 := by rw [val14, if_pos hV]; rfl
    obtain ⟨hQ, hU⟩ := hV
    by_cases hm1 : leQ (Int.ofNat 0) m = true
    · by_cases hm2 : leQ m (Int.ofNat 2000) = true
      · by_cases hn1 : leQ (Int.ofNat 1) n = true
        · by_cases hn2 : leQ n (Int.ofNat 9) = true
          · have hm : 0 ≤ m ∧ m ≤ 2000 := ⟨by rw [leQ_eq] at hm1; exact of_decide_eq_true hm1, by rw [leQ_eq] at hm2; exact of_decide_eq_true hm2⟩
            have hn : 1 ≤ n ∧ n ≤ 9 := ⟨by rw [leQ_eq] at hn1; exact of_decide_eq_true hn1, by rw [leQ_eq] at hn2; exact of_decide_eq_true hn2⟩
            have hw : wrapQ .i64 n = n := wrapQ64 (by omega) (by omega)
            have p1 := pair1 hQ hU hm
            have p2 := pair2 hQ hU
            by_cases h6 : n = Int.ofNat 6
            · subst h6
              have p4 := pair4 hQ hU
              have w6 : wrapQ .i64 (Int.ofNat 6) = Int.ofNat 6 := hw
              unfold Did at p1 p2 p4
              rcases p1 with e1 | ⟨⟨a1, a2, a3, a4, a5, a6⟩, ⟨b1, b2, b3, b4, b5, b6⟩⟩ <;> rcases p2 with e2 | ⟨⟨c1, c2, c3, c4, c5, c6⟩, ⟨d1, d2, d3, d4, d5, d6⟩⟩ <;>
                rcases p4 with e3 | ⟨⟨f1, f2, f3, f4, f5, f6⟩, ⟨g1, g2, g3, g4, g5, g6⟩, ⟨k1, k2, k3, k4, k5, k6⟩⟩ <;>
                (rw [r6_0]; simp only [h14, hm1, hm2, hn1, hn2, w6, eqQ_self, z18, Bool.not_true, Bool.not_false, Abs.iff_true, Abs.iff_false, *])
            · have h6' : n ≠ 6 := h6
              have e6 : eqQ n (Int.ofNat 6) = false := by rw [eqQ_eq]; exact beq_eq_false_iff_ne.2 h6
              have p3 := pair3 hQ hU hn h6'
              unfold Did at p1 p2 p3
              rcases p1 with e1 | ⟨⟨a1, a2, a3, a4, a5, a6⟩, ⟨b1, b2, b3, b4, b5, b6⟩⟩ <;> rcases p2 with e2 | ⟨⟨c1, c2, c3, c4, c5, c6⟩, ⟨d1, d2, d3, d4, d5, d6⟩⟩ <;>
                rcases p3 with e3 | ⟨⟨f1, f2, f3, f4, f5, f6⟩, ⟨g1, g2, g3, g4, g5, g6⟩⟩ <;>
                (rw [r6_0]; simp only [h14, hm1, hm2, hn1, hn2, hw, e6, eqQ_self, z18, Bool.not_true, Bool.not_false, Abs.iff_true, Abs.iff_false, *])
          · rw [Bool.not_eq_true] at hn2
            rw [r6_0]; simp only [h14, hm1, hm2, hn1, hn2, eqQ_self, Bool.not_true, Bool.not_false, Abs.iff_true, Abs.iff_false]
        · rw [Bool.not_eq_true] at hn1
          rw [r6_0]; simp only [h14, hm1, hm2, hn1, eqQ_self, Bool.not_true, Bool.not_false, Abs.iff_true, Abs.iff_false]
      · rw [Bool.not_eq_true] at hm2
        rw [r6_0]; simp only [h14, hm1, hm2, eqQ_self, Bool.not_true, Bool.not_false, Abs.iff_true, Abs.iff_false]
    · rw [Bool.not_eq_true] at hm1
      rw [r6_0]; simp only [h14, hm1, eqQ_self, Bool.not_true, Bool.not_false, Abs.iff_true, Abs.iff_false]
  · have h14 : r14_0 a b c d f g i j k l = Int.ofNat 8 := by rw [val14, if_neg hV]; rfl
    have z8 : eqQ (Int.ofNat 8) (Int.ofNat 0) = false := by kernel_rfl
    rw [r6_0]; simp only [h14, z8, Bool.not_true, Bool.not_false, Abs.iff_true, Abs.iff_false]
end Back
end Go.Proofs.YtkadjjicakinbaaDoor
