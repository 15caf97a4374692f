/- A step that is done keeps a usage valid, and moves the two numbers as its kind says. -/
import Derived.Test.YtkadjjicakinbaaDoorSt
set_option maxRecDepth 100000
namespace Go.Proofs.YtkadjjicakinbaaDoor
open Go Go.Abs
variable {a b c d f g i j k l n kd : Int}
theorem stepFacts (hQ : Qv a b c d f) (hU : Uv a b c d f g i j k l) (he : r15_5 a b c d f g i j k l kd n = 0) : 1 ≤ kd ∧ kd ≤ 7 ∧
    Uv a b c d f (r15_0 a b c d f g i j k l kd n) (r15_1 a b c d f g i j k l kd n) (r15_2 a b c d f g i j k l kd n) (r15_3 a b c d f g i j k l kd n) (r15_4 a b c d f g i j k l kd n) ∧
    r15_2 a b c d f g i j k l kd n = (if kd = 3 then j + 1 else if kd = 4 then j - 1 else j) ∧ r15_3 a b c d f g i j k l kd n = (if kd = 4 then (if n = 6 then k + 1 else k) else if kd = 5 then k - 1 else k) := by
  by_cases hk : kd < 1 ∨ 7 < kd
  · rw [stOther hQ hU hk] at he; exact absurd he (by decide)
  have hr : 1 ≤ kd ∧ kd ≤ 7 := by omega
  refine ⟨hr.1, hr.2, ?_⟩
  have h7 : kd = 1 ∨ kd = 2 ∨ kd = 3 ∨ kd = 4 ∨ kd = 5 ∨ kd = 6 ∨ kd = 7 := by omega
  rcases h7 with rfl | rfl | rfl | rfl | rfl | rfl | rfl
  · replace he : r15_5 a b c d f g i j k l (Int.ofNat 1) n = 0 := he
    show Uv a b c d f (r15_0 a b c d f g i j k l (Int.ofNat 1) n) (r15_1 a b c d f g i j k l (Int.ofNat 1) n) (r15_2 a b c d f g i j k l (Int.ofNat 1) n) (r15_3 a b c d f g i j k l (Int.ofNat 1) n) (r15_4 a b c d f g i j k l (Int.ofNat 1) n) ∧ r15_2 a b c d f g i j k l (Int.ofNat 1) n = _ ∧ r15_3 a b c d f g i j k l (Int.ofNat 1) n = _
    by_cases hn : 0 ≤ n ∧ n ≤ 2000
    · have h := st1 hQ hU hn
      rw [he] at h
      obtain ⟨h1, h2⟩ := h
      have hN := Classical.byContradiction (fun hc => absurd (h1.trans (if_neg hc)) (by decide))
      obtain ⟨e0, e1, e2, e3, e4⟩ := h2 hN
      rw [e0, e1, e2, e3, e4]
      exact ⟨hN, by simp, by simp⟩
    · rw [stn1 hQ hU hn] at he; exact absurd he (by decide)
  · replace he : r15_5 a b c d f g i j k l (Int.ofNat 2) n = 0 := he
    show Uv a b c d f (r15_0 a b c d f g i j k l (Int.ofNat 2) n) (r15_1 a b c d f g i j k l (Int.ofNat 2) n) (r15_2 a b c d f g i j k l (Int.ofNat 2) n) (r15_3 a b c d f g i j k l (Int.ofNat 2) n) (r15_4 a b c d f g i j k l (Int.ofNat 2) n) ∧ r15_2 a b c d f g i j k l (Int.ofNat 2) n = _ ∧ r15_3 a b c d f g i j k l (Int.ofNat 2) n = _
    by_cases hn : 0 ≤ n ∧ n ≤ 2000
    · have h := st2 hQ hU hn
      rw [he] at h
      obtain ⟨h1, h2⟩ := h
      have hN := Classical.byContradiction (fun hc => absurd (h1.trans (if_neg hc)) (by decide))
      obtain ⟨e0, e1, e2, e3, e4⟩ := h2 hN
      rw [e0, e1, e2, e3, e4]
      exact ⟨hN, by simp, by simp⟩
    · rw [stn2 hQ hU hn] at he; exact absurd he (by decide)
  · replace he : r15_5 a b c d f g i j k l (Int.ofNat 3) n = 0 := he
    show Uv a b c d f (r15_0 a b c d f g i j k l (Int.ofNat 3) n) (r15_1 a b c d f g i j k l (Int.ofNat 3) n) (r15_2 a b c d f g i j k l (Int.ofNat 3) n) (r15_3 a b c d f g i j k l (Int.ofNat 3) n) (r15_4 a b c d f g i j k l (Int.ofNat 3) n) ∧ r15_2 a b c d f g i j k l (Int.ofNat 3) n = _ ∧ r15_3 a b c d f g i j k l (Int.ofNat 3) n = _
    by_cases hn : n = 0
    · have h := st3 hQ hU hn
      rw [he] at h
      obtain ⟨h1, h2⟩ := h
      have hN := Classical.byContradiction (fun hc => absurd (h1.trans (if_neg hc)) (by decide))
      obtain ⟨e0, e1, e2, e3, e4⟩ := h2 hN
      rw [e0, e1, e2, e3, e4]
      exact ⟨hN, by simp, by simp⟩
    · rw [stn3 hQ hU hn] at he; exact absurd he (by decide)
  · replace he : r15_5 a b c d f g i j k l (Int.ofNat 4) n = 0 := he
    show Uv a b c d f (r15_0 a b c d f g i j k l (Int.ofNat 4) n) (r15_1 a b c d f g i j k l (Int.ofNat 4) n) (r15_2 a b c d f g i j k l (Int.ofNat 4) n) (r15_3 a b c d f g i j k l (Int.ofNat 4) n) (r15_4 a b c d f g i j k l (Int.ofNat 4) n) ∧ r15_2 a b c d f g i j k l (Int.ofNat 4) n = _ ∧ r15_3 a b c d f g i j k l (Int.ofNat 4) n = _
    by_cases hn : 1 ≤ n ∧ n ≤ 9
    · have h := st4 hQ hU hn
      rw [he] at h
      obtain ⟨h1, h2⟩ := h
      have hN := Classical.byContradiction (fun hc => absurd (h1.trans (if_neg hc)) (by decide))
      obtain ⟨e0, e1, e2, e3, e4⟩ := h2 hN
      rw [e0, e1, e2, e3, e4]
      exact ⟨hN, by simp, by simp⟩
    · rw [stn4 hQ hU hn] at he; exact absurd he (by decide)
  · replace he : r15_5 a b c d f g i j k l (Int.ofNat 5) n = 0 := he
    show Uv a b c d f (r15_0 a b c d f g i j k l (Int.ofNat 5) n) (r15_1 a b c d f g i j k l (Int.ofNat 5) n) (r15_2 a b c d f g i j k l (Int.ofNat 5) n) (r15_3 a b c d f g i j k l (Int.ofNat 5) n) (r15_4 a b c d f g i j k l (Int.ofNat 5) n) ∧ r15_2 a b c d f g i j k l (Int.ofNat 5) n = _ ∧ r15_3 a b c d f g i j k l (Int.ofNat 5) n = _
    by_cases hn : n = 0
    · have h := st5 hQ hU hn
      rw [he] at h
      obtain ⟨h1, h2⟩ := h
      have hN := Classical.byContradiction (fun hc => absurd (h1.trans (if_neg hc)) (by decide))
      obtain ⟨e0, e1, e2, e3, e4⟩ := h2 hN
      rw [e0, e1, e2, e3, e4]
      exact ⟨hN, by simp, by simp⟩
    · rw [stn5 hQ hU hn] at he; exact absurd he (by decide)
  · replace he : r15_5 a b c d f g i j k l (Int.ofNat 6) n = 0 := he
    show Uv a b c d f (r15_0 a b c d f g i j k l (Int.ofNat 6) n) (r15_1 a b c d f g i j k l (Int.ofNat 6) n) (r15_2 a b c d f g i j k l (Int.ofNat 6) n) (r15_3 a b c d f g i j k l (Int.ofNat 6) n) (r15_4 a b c d f g i j k l (Int.ofNat 6) n) ∧ r15_2 a b c d f g i j k l (Int.ofNat 6) n = _ ∧ r15_3 a b c d f g i j k l (Int.ofNat 6) n = _
    by_cases hn : n = 0
    · have h := st6 hQ hU hn
      rw [he] at h
      obtain ⟨h1, h2⟩ := h
      have hN := Classical.byContradiction (fun hc => absurd (h1.trans (if_neg hc)) (by decide))
      obtain ⟨e0, e1, e2, e3, e4⟩ := h2 hN
      rw [e0, e1, e2, e3, e4]
      exact ⟨hN, by simp, by simp⟩
    · rw [stn6 hQ hU hn] at he; exact absurd he (by decide)
  · replace he : r15_5 a b c d f g i j k l (Int.ofNat 7) n = 0 := he
    show Uv a b c d f (r15_0 a b c d f g i j k l (Int.ofNat 7) n) (r15_1 a b c d f g i j k l (Int.ofNat 7) n) (r15_2 a b c d f g i j k l (Int.ofNat 7) n) (r15_3 a b c d f g i j k l (Int.ofNat 7) n) (r15_4 a b c d f g i j k l (Int.ofNat 7) n) ∧ r15_2 a b c d f g i j k l (Int.ofNat 7) n = _ ∧ r15_3 a b c d f g i j k l (Int.ofNat 7) n = _
    by_cases hn : n = 0
    · have h := st7 hQ hU hn
      rw [he] at h
      obtain ⟨h1, h2⟩ := h
      have hN := Classical.byContradiction (fun hc => absurd (h1.trans (if_neg hc)) (by decide))
      obtain ⟨e0, e1, e2, e3, e4⟩ := h2 hN
      rw [e0, e1, e2, e3, e4]
      exact ⟨hN, by simp, by simp⟩
    · rw [stn7 hQ hU hn] at he; exact absurd he (by decide)
end Go.Proofs.YtkadjjicakinbaaDoor
