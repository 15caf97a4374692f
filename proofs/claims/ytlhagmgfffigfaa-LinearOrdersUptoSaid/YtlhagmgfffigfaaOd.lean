/- LinearOrders, plainly: the law answers true. Conditions: no list is longer than 1048576. -/
import Derived.Test.YtlhagmgfffigfaaOc
import Derived.Test.YtlhagmgfffigfaaL5
set_option maxRecDepth 100000
namespace Go.Proofs.Ytlhagmgfffigfaa
open Go Go.Abs
namespace L
/-- what both checks say -/
noncomputable def code2 (l : List (El t80)) (p : List (El t82)) : Int := iff (!eqQ (code l) (Int.ofNat 0)) (code l) (iff (!leQ (Int.ofNat p.length) (Int.ofNat 240)) (Int.ofNat 4) (Int.ofNat 0))
theorem r41_eq (n : Nat) (hn : 2000 ≤ n) (l : List (El t80)) (p : List (El t82)) : r41 n (l, p, PUnit.unit) = some (code2 l p, PUnit.unit) := by
  show r41c n l p = _
  unfold r41c
  refine (andThen_of (r20_eq n (by omega) l)).trans ?_
  unfold code2
  show iff (!eqQ (code l) (Int.ofNat 0)) _ (iff (!leQ (Int.ofNat p.length) (Int.ofNat 240)) _ _) = _
  cases eqQ (code l) (Int.ofNat 0) <;> cases leQ (Int.ofNat p.length) (Int.ofNat 240) <;> rfl
theorem r43_eq (n : Nat) (hn : 100000 ≤ n) (l : List (El t80)) (p : List (El t82)) : r43 n (l, p, PUnit.unit) = some (code2 l p, PUnit.unit) := by
  show r43c n l p = _
  unfold r43c
  refine (andThen_of (r21_code n hn l)).trans ?_
  unfold code2
  show iff (!eqQ (code l) (Int.ofNat 0)) (andThen _ _) (iff (!leQ (Int.ofNat p.length) (Int.ofNat 240)) _ _) = _
  cases hc : eqQ (code l) (Int.ofNat 0) with
  | false => exact (iff_nf rfl).trans ((andThen_of (r21_code n hn l)).trans rfl)
  | true => cases leQ (Int.ofNat p.length) (Int.ofNat 240) <;> rfl
theorem code2_zero {l : List (El t80)} {p : List (El t82)} (h : eqQ (code2 l p) (Int.ofNat 0) = true) : code l = 0 ∧ p.length ≤ 240 := by
  have h := (eqQ_true _ _).1 h
  unfold code2 at h
  cases hc : eqQ (code l) (Int.ofNat 0) with
  | false =>
    rw [hc] at h
    have h : code l = Int.ofNat 0 := h
    rw [(eqQ_true _ _).2 h] at hc
    cases hc
  | true =>
    rw [hc] at h
    refine ⟨(eqQ_true _ _).1 hc, ?_⟩
    cases hl : leQ (Int.ofNat p.length) (Int.ofNat 240) with
    | true =>
      rw [leQ_nat, decide_eq_true_eq] at hl
      exact hl
    | false =>
      rw [hl] at h
      cases (show (Int.ofNat 4) = (Int.ofNat 0) from h)
theorem points_good {l : List (El t80)} (h : code l = 0) : (points l).1 = pts33 l := by
  unfold points
  rw [if_pos h]
theorem points_few {l : List (El t80)} (h : code l = 0) : (points l).1.length ≤ 28800 := by
  rw [points_good h]
  have h1 := pts33_len l
  have h2 := (code_zero h).1
  omega
/-- all of it, in one -/
theorem all_same (n : Nat) (hn : 1048577 ≤ n) (l : List (El t80)) (p : List (El t82)) :
    ∃ u v, r24 n (l, p, PUnit.unit) = some u ∧ r25 n (l, p, PUnit.unit) = some u ∧ r26 n (l, p, PUnit.unit) = some v ∧ r27 n (l, p, PUnit.unit) = some v := by
  have h41 := r41_eq n (by omega) l p
  have h43 := r43_eq n (by omega) l p
  cases hc : eqQ (code2 l p) (Int.ofNat 0) with
  | false =>
    exact ⟨(false, code2 l p, PUnit.unit), (false, code2 l p, PUnit.unit),
      (show r24c n l p = _ from (andThen_of h41).trans (iff_nf hc)), (show r25c n l p = _ from (andThen_of h43).trans (iff_nf hc)),
      (show r26c n l p = _ from (andThen_of h41).trans (iff_nf hc)), (show r27c n l p = _ from (andThen_of h43).trans (iff_nf hc))⟩
  | true =>
    obtain ⟨h0, hp⟩ := code2_zero hc
    have hg := (code_zero h0).2
    have hq := points_few h0
    have h42 := r42_perm n (by omega) l p (by omega) (by omega) (by omega) (by omega)
    have h44 := r44_perm n (by omega) l p (by omega) (by omega) (by omega) (by omega)
    rw [points_good h0] at h42 h44
    rw [perm_same hg] at h44
    cases hb : permP (pts33 l) p with
    | false =>
      rw [hb] at h42 h44
      exact ⟨(false, Int.ofNat 0, PUnit.unit), (false, Int.ofNat 2, PUnit.unit),
        (show r24c n l p = _ from (andThen_of h41).trans ((iff_nt hc).trans ((andThen_of h42).trans rfl))),
        (show r25c n l p = _ from (andThen_of h43).trans ((iff_nt hc).trans ((andThen_of h44).trans rfl))),
        (show r26c n l p = _ from (andThen_of h41).trans ((iff_nt hc).trans ((andThen_of h42).trans (iff_nf rfl)))),
        (show r27c n l p = _ from (andThen_of h43).trans ((iff_nt hc).trans ((andThen_of h44).trans (iff_nf rfl))))⟩
    | true =>
      have hperm := (permP_iff (pts_nodup hg)).1 hb
      have hv : Valid l p := fun x hx => by
        obtain ⟨i, e, h1, h2⟩ := pts_mem hg (hperm.mem_iff.1 hx)
        refine ⟨i, e, ?_, h1⟩
        rcases h2 with rfl | rfl <;> rfl
      rw [hb] at h42 h44
      have h26 := r26_loop n (by omega) l p (by omega) (by omega)
      have h27 := r27_loop n l h0 p hv (by omega) (by omega)
      rw [any_same] at h27
      refine ⟨(true, Int.ofNat 0, PUnit.unit), iff (p.zipIdx.any (after l p)) (false, Int.ofNat 0, PUnit.unit) (true, Int.ofNat 0, PUnit.unit),
        (show r24c n l p = _ from (andThen_of h41).trans ((iff_nt hc).trans ((andThen_of h42).trans rfl))),
        (show r25c n l p = _ from (andThen_of h43).trans ((iff_nt hc).trans ((andThen_of h44).trans rfl))),
        (show r26c n l p = _ from (andThen_of h41).trans ((iff_nt hc).trans ((andThen_of h42).trans ((iff_nt rfl).trans ((andThen_of h26).trans ?_))))),
        (show r27c n l p = _ from (andThen_of h43).trans ((iff_nt hc).trans ((andThen_of h44).trans ((iff_nt rfl).trans ((andThen_of h27).trans ?_)))))⟩
      · cases p.zipIdx.any (after l p) <;> rfl
      · cases p.zipIdx.any (after l p) <;> rfl
theorem orders (n : Nat) (hn : 1048577 ≤ n) (l : List (El t80)) (hl : l.length ≤ 1048576) (p : List (El t82)) : r5 n (l, p, PUnit.unit) = some (true, PUnit.unit) := by
  show r5c n l p = _
  unfold r5c
  have key : ∀ b, r5_j2 n l p b = some (true, PUnit.unit) := fun b => by
    unfold r5_j2
    cases b with
    | true => rfl
    | false =>
      obtain ⟨u, v, h1, h2, h3, h4⟩ := all_same n hn l p
      refine (iff_f rfl).trans ((andThen_of h1).trans ((andThen_of h2).trans ((andThen_of h3).trans ((andThen_of h4).trans ?_))))
      refine (iff_t (eqBl_self _)).trans ((iff_t (eqQ_self _)).trans ((iff_t (eqBl_self _)).trans ?_))
      exact congrArg (fun b => some (b, PUnit.unit)) (eqQ_self _)
  refine (andThen_of (a := Sum.inl ((l, p, or (greatL l) (!leQ (Int.ofNat p.length) (Int.ofNat 250)), PUnit.unit), PUnit.unit, PUnit.unit)) ?_).trans (key _)
  refine (andThen_of (r10_eq n l hl (by omega))).trans ?_
  show iff (greatL l) _ _ = _
  cases greatL l <;> rfl
end L
end Go.Proofs.Ytlhagmgfffigfaa
