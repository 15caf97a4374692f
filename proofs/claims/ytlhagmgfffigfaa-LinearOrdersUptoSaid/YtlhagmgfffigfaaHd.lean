/- HistoryReads, plainly: the reference's check of events, as a fold. Conditions: at most 130 events. -/
import Derived.Test.YtlhagmgfffigfaaHc
import Derived.Test.YtlhagmgfffigfaaL21
set_option maxRecDepth 100000
namespace Go.Proofs.Ytlhagmgfffigfaa
open Go Go.Abs
namespace L
noncomputable def pAt (x : El t82) : Int := x.1
/-- are two points, one behind the other, at one entry? -/
noncomputable def adj : List (El t82) → Bool
  | [] => false
  | x :: r => match r with
    | [] => false
    | y :: _ => or (eqQ (pAt x) (pAt y)) (adj r)
theorem wrap_pred {k : Nat} (h : k < 9223372036854775806) : wrapQ .i64 (Int.sub (Int.ofNat (k + 1)) (Int.ofNat 1)) = Int.ofNat k := by
  rw [show Int.sub (Int.ofNat (k + 1)) (Int.ofNat 1) = (Int.ofNat k : Int) by show ((k + 1 : Nat) : Int) - 1 = (k : Int); omega, wrapQ_eq]
  simp [IntKind.wrap, IntKind.bits, IntKind.signed]
  omega
abbrev X10 : Type := (List (El t82) × Int × Unit) × Unit × Unit
theorem loop10 (n : Nat) (p : List (El t82)) (hp : p.length ≤ 1000000) : ∀ (r : List (El t82)) (x : El t82) (k m : Nat), p.drop k = x :: r → r.length + 1 < m →
    iterF (fun (x : X10) => r21_l10 n (Prod.fst (Prod.fst x)) (Prod.fst (Prod.snd (Prod.fst x)))) m ((p, Int.ofNat (k + 1), PUnit.unit), PUnit.unit, PUnit.unit) = some (iff (adj (x :: r)) (.inr (Int.ofNat 8, PUnit.unit)) (.inl (PUnit.unit, PUnit.unit, PUnit.unit))) := by
  intro r
  induction r with
  | nil =>
    intro x k m hd hm
    have hk : k + 1 = p.length := by
      have h1 := congrArg List.length hd
      rw [List.length_drop] at h1
      simp at h1; omega
    obtain ⟨m, rfl⟩ : ∃ q, m = q + 1 := ⟨m - 1, by omega⟩
    refine iterF_inr ?_
    show r21_l10 n p (Int.ofNat (k + 1)) = _
    unfold r21_l10
    rw [hk]
    exact iff_nt (le_true (Nat.le_refl _))
  | cons y r ih =>
    intro x k m hd hm
    have h1 := congrArg List.length hd
    rw [List.length_drop] at h1
    simp only [List.length_cons] at h1 hm
    obtain ⟨m, rfl⟩ : ∃ q, m = q + 1 := ⟨m - 1, by omega⟩
    have hx : p[k]? = some x := by
      have : (p.drop k)[0]? = some x := by rw [hd]; rfl
      rwa [List.getElem?_drop, Nat.add_zero] at this
    have hy : p[k + 1]? = some y := by
      have : (p.drop k)[1]? = some y := by rw [hd]; rfl
      rwa [List.getElem?_drop] at this
    have hb : r21_l10 n p (Int.ofNat (k + 1)) = some (iff (eqQ (pAt x) (pAt y)) (.inr (.inr (Int.ofNat 8, PUnit.unit))) (.inl ((p, Int.ofNat (k + 2), PUnit.unit), PUnit.unit, PUnit.unit))) := by
      unfold r21_l10
      refine (iff_nf (le_false (by omega))).trans ?_
      rw [wrap_pred (by omega)]
      refine (andThen_of (inRange_nat (by omega))).trans ((andThen_of (nthQ_some hx)).trans ((andThen_of (inRange_nat (by omega))).trans ((andThen_of (nthQ_some hy)).trans ?_)))
      rw [wrap_succ (by omega)]
      show iff (eqQ (pAt x) (pAt y)) _ _ = _
      cases eqQ (pAt x) (pAt y) <;> rfl
    show _ = some (iff (or (eqQ (pAt x) (pAt y)) (adj (y :: r))) _ _)
    cases hc : eqQ (pAt x) (pAt y) with
    | true =>
      rw [hc] at hb
      exact iterF_inr hb
    | false =>
      rw [hc] at hb
      refine (iterF_inl hb).trans ?_
      exact ih y (k + 1) m (by rw [← List.drop_drop, hd]; rfl) (by omega)
theorem loop10_all (n m : Nat) (p : List (El t82)) (hp : p.length ≤ 1000000) (hm : p.length + 1 < m) :
    iterF (fun (x : X10) => r21_l10 n (Prod.fst (Prod.fst x)) (Prod.fst (Prod.snd (Prod.fst x)))) m ((p, Int.ofNat 1, PUnit.unit), PUnit.unit, PUnit.unit) = some (iff (adj p) (.inr (Int.ofNat 8, PUnit.unit)) (.inl (PUnit.unit, PUnit.unit, PUnit.unit))) := by
  cases p with
  | nil =>
    obtain ⟨m, rfl⟩ : ∃ q, m = q + 1 := ⟨m - 1, by omega⟩
    refine iterF_inr ?_
    show r21_l10 n [] (Int.ofNat 1) = _
    unfold r21_l10
    exact iff_nt (le_true (Nat.zero_le _))
  | cons x r => exact loop10 n (x :: r) hp r x 0 m rfl (by simp at hm; omega)
/-- did the event ahead begin later? -/
noncomputable def prevLe (l : List (El t80)) (k : Nat) (e : El t80) : Bool := match k with
  | 0 => false
  | j + 1 => @Option.rec (El t80) (fun _ => Bool) false (fun p => leQ (bg e) (bg p)) l[j]?
theorem prevLe_eq {l : List (El t80)} {j : Nat} {p e : El t80} (h : l[j]? = some p) : prevLe l (j + 1) e = leQ (bg e) (bg p) := by
  show @Option.rec (El t80) (fun _ => Bool) false (fun p => leQ (bg e) (bg p)) l[j]? = _
  rw [h]
/-- is an event wrong, as the reference says it? -/
noncomputable def bad21 (l : List (El t80)) (k : Nat) (e : El t80) : Bool :=
  or (!validE e) (or (prevLe l k e) (and (leQ (Int.ofNat 0) (tk e)) (!eqQ (ticketed l (tk e)) (Int.ofNat k))))
abbrev X21 : Type := (List (El t80) × Int × Unit) × Unit × Unit
abbrev R21 : Type := (List (El t80) × Unit) × Unit × Unit ⊕ Int × Unit
theorem r21_l4_eq (n : Nat) (hn : 2000 ≤ n) (l : List (El t80)) (hl : l.length ≤ 1000) (k : Nat) (e : El t80) (hk : l[k]? = some e) :
    r21_l4 n l (Int.ofNat k) = some (iff (bad21 l k e) (.inr (.inr (Int.ofNat 8, PUnit.unit))) (.inl ((l, Int.ofNat (k + 1), PUnit.unit), PUnit.unit, PUnit.unit))) := by
  have hlt := (List.getElem?_eq_some_iff.1 hk).1
  unfold r21_l4
  refine (iff_nf (le_false hlt)).trans ?_
  refine (andThen_of (a := Sum.inl ((l, Int.ofNat k, bad21 l k e, PUnit.unit), PUnit.unit, PUnit.unit)) ?_).trans ?_
  · refine (andThen_of (inRange_nat hlt)).trans ((andThen_of (nthQ_some hk)).trans ((andThen_of (r38_all n e)).trans ?_))
    unfold bad21
    show iff (!validE e) _ _ = _
    cases validE e with
    | false => rfl
    | true =>
      refine (iff_f rfl).trans ?_
      have rest : ∀ b : Bool, b = false → iff (leQ (Int.ofNat 0) (tk e))
          (andThen (inRange (Int.ofNat k) l.length) fun (j : Nat) => andThen (nthQ j l) fun (y : El t80) => andThen (r39 n (l, tk y, PUnit.unit)) fun (z : ElL (Con.B (r39k n))) =>
            some (Sum.inl (α := (List (El t80) × Int × Bool × Unit) × Unit × Unit) (β := X21 ⊕ R21) ((l, Int.ofNat k, !eqQ z.1 (Int.ofNat k), PUnit.unit), PUnit.unit, PUnit.unit)))
          (some (Sum.inl ((l, Int.ofNat k, false, PUnit.unit), PUnit.unit, PUnit.unit))) =
          some (Sum.inl ((l, Int.ofNat k, or b (and (leQ (Int.ofNat 0) (tk e)) (!eqQ (ticketed l (tk e)) (Int.ofNat k))), PUnit.unit), PUnit.unit, PUnit.unit)) := fun b hb => by
        subst hb
        cases leQ (Int.ofNat 0) (tk e) with
        | false => rfl
        | true => exact (iff_t rfl).trans ((andThen_of (inRange_nat hlt)).trans ((andThen_of (nthQ_some hk)).trans ((andThen_of (r39_eq n l (tk e) (by omega) (by omega))).trans rfl)))
      cases k with
      | zero =>
        refine (iff_nt (le_true (Nat.le_refl _))).trans ((andThen_of (inRange_nat hlt)).trans ((andThen_of (nthQ_some hk)).trans ?_))
        exact rest false rfl
      | succ j =>
        refine (iff_nf (le_false (Nat.succ_pos j))).trans ?_
        rw [wrap_pred (by omega)]
        obtain ⟨p, hp⟩ : ∃ p, l[j]? = some p := ⟨_, List.getElem?_eq_getElem (by omega)⟩
        refine (andThen_of (inRange_nat (by omega))).trans ((andThen_of (nthQ_some hp)).trans ((andThen_of (inRange_nat hlt)).trans ((andThen_of (nthQ_some hk)).trans ?_)))
        have hpl : prevLe l (j + 1) e = leQ (bg e) (bg p) := prevLe_eq hp
        show iff (leQ (bg e) (bg p)) _ _ = some (Sum.inl ((l, Int.ofNat (j + 1), or (prevLe l (j + 1) e) (and (leQ (Int.ofNat 0) (tk e)) (!eqQ (ticketed l (tk e)) (Int.ofNat (j + 1)))), PUnit.unit), PUnit.unit, PUnit.unit))
        rw [hpl]
        cases hc : leQ (bg e) (bg p) with
        | true => rfl
        | false =>
          refine (iff_f rfl).trans ((andThen_of (inRange_nat hlt)).trans ((andThen_of (nthQ_some hk)).trans ?_))
          exact rest false rfl
  · show r21_j7 n l (Int.ofNat k) (bad21 l k e) = _
    unfold r21_j7
    rw [wrap_succ (by omega)]
    cases bad21 l k e <;> rfl
noncomputable def any21 (l : List (El t80)) : Nat → List (El t80) → Bool
  | _, [] => false
  | k, e :: r => or (bad21 l k e) (any21 l (k + 1) r)
theorem loop4 (n : Nat) (hn : 2000 ≤ n) (l : List (El t80)) (hl : l.length ≤ 1000) : ∀ (r : List (El t80)) (k m : Nat), l.drop k = r → k + r.length = l.length → r.length < m →
    iterF (fun (x : X21) => r21_l4 n (Prod.fst (Prod.fst x)) (Prod.fst (Prod.snd (Prod.fst x)))) m ((l, Int.ofNat k, PUnit.unit), PUnit.unit, PUnit.unit) = some (iff (any21 l k r) (.inr (Int.ofNat 8, PUnit.unit)) (.inl ((l, PUnit.unit), PUnit.unit, PUnit.unit))) := by
  intro r
  induction r with
  | nil =>
    intro k m _ hk hm
    have hk : k = l.length := by simpa using hk
    subst hk
    obtain ⟨m, rfl⟩ : ∃ q, m = q + 1 := ⟨m - 1, by simp at hm; omega⟩
    refine iterF_inr ?_
    show r21_l4 n l (Int.ofNat l.length) = _
    unfold r21_l4
    exact iff_nt (le_true (Nat.le_refl _))
  | cons e r ih =>
    intro k m hd hk hm
    have he : l[k]? = some e := by
      have : (l.drop k)[0]? = some e := by rw [hd]; rfl
      rwa [List.getElem?_drop, Nat.add_zero] at this
    obtain ⟨m, rfl⟩ : ∃ q, m = q + 1 := ⟨m - 1, by simp at hm; omega⟩
    have hs := r21_l4_eq n hn l hl k e he
    show _ = some (iff (or (bad21 l k e) (any21 l (k + 1) r)) _ _)
    cases hb : bad21 l k e with
    | true =>
      rw [hb] at hs
      exact iterF_inr hs
    | false =>
      rw [hb] at hs
      refine (iterF_inl hs).trans ?_
      exact ih (k + 1) m (by rw [← List.drop_drop, hd]; rfl) (by simp at hk; omega) (by simp at hm; omega)
theorem all33_len (l : List (El t80)) : ∀ bs : List Nat, (all33 l bs).length ≤ 2 * l.length * bs.length
  | [] => Nat.le_refl _
  | b :: bs => by
    have h1 := row33_len (Int.ofNat b) l 0
    have h2 := all33_len l bs
    show (row33 (Int.ofNat b) 0 l ++ all33 l bs).length ≤ _
    rw [List.length_append, List.length_cons, Nat.mul_succ]
    omega
theorem r21_eq (n : Nat) (hn : 100000 ≤ n) (l : List (El t80)) :
    r21 n (l, PUnit.unit) = some (iff (leQ (Int.ofNat l.length) (Int.ofNat 120)) (iff (any21 l 0 l) (Int.ofNat 8) (iff (adj (pts33 l)) (Int.ofNat 8) (Int.ofNat 0))) (Int.ofNat 4), PUnit.unit) := by
  show r21c n l = _
  unfold r21c
  cases hl : leQ (Int.ofNat l.length) (Int.ofNat 120) with
  | false => rfl
  | true =>
    rw [leQ_nat, decide_eq_true_eq] at hl
    refine (iff_f rfl).trans ((andThen_of (loop4 n (by omega) l (by omega) l 0 n rfl (by omega) (by omega))).trans ?_)
    cases any21 l 0 l with
    | true => rfl
    | false =>
      show r21_j8 n l = _
      unfold r21_j8
      have h1 : (pts33 l).length ≤ 2 * l.length * 120 := by
        have := all33_len l (List.range' 0 120)
        rwa [List.length_range'] at this
      have h2 : 2 * l.length * 120 ≤ 28800 := by omega
      refine (andThen_of (r33_eq n l (by omega) (by omega))).trans ((andThen_of (loop10_all n n (pts33 l) (by omega) (by omega))).trans ?_)
      cases adj (pts33 l) <;> rfl
end L
end Go.Proofs.Ytlhagmgfffigfaa
