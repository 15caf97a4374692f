/- HistoryReads, plainly: the law answers true. Conditions: no list is longer than 1048576. -/
import Derived.Test.YtlhagmgfffigfaaHk
import Derived.Test.YtlhagmgfffigfaaL4
set_option maxRecDepth 100000
namespace Go.Proofs.Ytlhagmgfffigfaa
open Go Go.Abs
namespace L
theorem seek_none {α : Type} {p : α → Bool} {f : Bool} : ∀ (l : List α) (k : Nat), seek p (fun _ => true) f l k = false → (∀ e ∈ l, p e = false) ∧ f = false
  | [], _, h => ⟨fun _ h => (by cases h), h⟩
  | a :: l, k, h => by
    unfold seek at h
    by_cases ha : p a = true
    · rw [if_pos ha] at h; cases h
    · rw [if_neg ha] at h
      obtain ⟨h1, h2⟩ := seek_none l (k + 1) h
      refine ⟨fun e he => ?_, h2⟩
      rcases List.mem_cons.1 he with rfl | he
      · simpa using ha
      · exact h1 e he
theorem not_great {l : List (El t80)} (h : greatL l = false) : l.length ≤ 130 ∧ ∀ e ∈ l, Mid e := by
  obtain ⟨h1, h2⟩ := seek_none l 0 (show seek bigE (fun _ => true) (longL l.length) l 0 = false from h)
  refine ⟨?_, fun e he => ?_⟩
  · unfold longL at h2
    rw [Bool.or_eq_false_iff, leQ_nat, leQ_nat, leQ_nat] at h2
    have := h2.2
    rw [Bool.not_eq_false', decide_eq_true_eq] at this
    exact this
  · have h3 := h1 e he
    unfold bigE at h3
    rw [Bool.or_eq_false_iff, Bool.or_eq_false_iff, Bool.not_eq_false', Bool.not_eq_false', Bool.not_eq_false', leQ_nat, leQ_nat, leQ_nat, decide_eq_true_eq, decide_eq_true_eq, decide_eq_true_eq] at h3
    exact ⟨h3.2.2, h3.1, h3.2.1⟩
theorem points_len {l : List (El t80)} (hl : l.length ≤ 130) : (points l).1.length ≤ 31200 := by
  unfold points
  by_cases hc : code l = 0
  · rw [if_pos hc]
    have := pts33_len l
    show (pts33 l).length ≤ _
    omega
  · rw [if_neg hc]; exact Nat.zero_le _
theorem tickets_len {l : List (El t80)} (hl : l.length ≤ 130) : (tickets l).1.length ≤ 130 := by
  unfold tickets
  by_cases hc : code l = 0
  · rw [if_pos hc]
    have h1 := trow_len l 0
    have h2 : (byT l (trow 0 l)).length = (trow 0 l).length := List.length_mergeSort _
    show (byT l (trow 0 l)).length ≤ _
    omega
  · rw [if_neg hc]; exact Nat.zero_le _
theorem opens_len {l : List (El t80)} (hl : l.length ≤ 130) : (opens l).1.length ≤ 130 := by
  unfold opens
  by_cases hc : code l = 0
  · rw [if_pos hc]
    have h1 := orow_len notDone l 0
    show (orow notDone 0 l).length ≤ _
    omega
  · rw [if_neg hc]; exact Nat.zero_le _
theorem reads (n : Nat) (hn : 1048577 ≤ n) (l : List (El t80)) (hl : l.length ≤ 1048576) (i k : Int) : r4 n (l, i, k, PUnit.unit) = some (true, PUnit.unit) := by
  show r4c n l i k = _
  unfold r4c
  refine (andThen_of (r10_eq n l hl (by omega))).trans ?_
  show iff (greatL l) _ _ = _
  cases hg : greatL l with
  | true => rfl
  | false =>
    obtain ⟨hlen, hm⟩ := not_great hg
    refine (iff_f rfl).trans ((andThen_of (r11_eq n l (by omega) hm (by omega))).trans ?_)
    have a12 := r12_points n (by omega) l
    have a13 := r13_points n (by omega) l
    have a14 := r14_tickets n (by omega) l
    have a15 := r15_tickets n (by omega) l
    have a16 := r16_opens n (by omega) l
    have a17 := r17_opens n (by omega) l
    have a18 := r18_before n (by omega) l i k
    have a19 := r19_before n (by omega) l i k
    have a20 := r20_eq n (by omega) l
    have a21 := r21_code n (by omega) l
    refine (andThen_of a12).trans ((andThen_of a13).trans ((andThen_of a14).trans ((andThen_of a15).trans ((andThen_of a16).trans ((andThen_of a17).trans ((andThen_of a18).trans ((andThen_of a19).trans ((andThen_of a20).trans ((andThen_of a21).trans ?_)))))))))
    have h1 := points_len hlen
    have h2 := tickets_len hlen
    have h3 := opens_len hlen
    refine (iff_t (eqQ_self _)).trans ?_
    refine (andThen_of (r22_self n (points l).1 (by omega) (by omega))).trans ((iff_t rfl).trans ((iff_t (eqQ_self _)).trans ?_))
    refine (andThen_of (r8_self n (tickets l).1 (by omega) (by omega))).trans ((iff_t rfl).trans ((iff_t (eqQ_self _)).trans ?_))
    refine (andThen_of (r8_self n (opens l).1 (by omega) (by omega))).trans ((iff_t rfl).trans ((iff_t (eqQ_self _)).trans ?_))
    refine (iff_t (eqBl_self _)).trans ((iff_t (eqQ_self _)).trans ?_)
    exact (andThen_of (r23_self n l hl (fun x hx => by
      have := (hm x hx).1
      show _ ≤ 1048576
      exact Nat.le_trans this (by omega)) (by omega))).trans rfl
end L
end Go.Proofs.Ytlhagmgfffigfaa
