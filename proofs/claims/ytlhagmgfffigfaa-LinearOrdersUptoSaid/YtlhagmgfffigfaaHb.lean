/- HistoryReads, plainly: the program's check of events, as a fold. Conditions: at most 120 events are looked at. -/
import Derived.Test.YtlhagmgfffigfaaHa
import Derived.Test.YtlhagmgfffigfaaHv
import Derived.Test.YtlhagmgfffigfaaL20
set_option maxRecDepth 100000
namespace Go.Proofs.Ytlhagmgfffigfaa
open Go Go.Abs
namespace L
abbrev M : Type := List (Int × Bool × Int) × Int
noncomputable def gX (k : Int) (xs : List (Int × Bool × Int)) : Bool := getX (.int .i64) .bool k false xs
noncomputable def hX (k : Int) (xs : List (Int × Bool × Int)) : Bool := hasX (.int .i64) .bool k xs
noncomputable def sX (k : Int) (xs : List (Int × Bool × Int)) : List (Int × Bool × Int) := setX (.int .i64) .bool k true xs
/-- is a number in a set? -/
noncomputable def has (m : M) (k : Int) : Bool := gX k m.1
/-- a set with a number more -/
noncomputable def put (m : M) (k : Int) : M := putX (.int .i64) .bool k true m
theorem iff_dec {α : Type} (k a : Int) (x y : α) : iff (eqQ k a) x y = if k = a then x else y := by
  rw [eqQ_dec, iff_eq]
  by_cases h : k = a
  · rw [if_pos (decide_eq_true h), if_pos h]
  · rw [if_neg (by rw [decide_eq_false h]; decide), if_neg h]
theorem gX_cons (k a : Int) (v : Bool) (c : Int) (xs : List (Int × Bool × Int)) : gX k ((a, v, c) :: xs) = if k = a then v else gX k xs := iff_dec k a v (gX k xs)
theorem hX_cons (k a : Int) (v : Bool) (c : Int) (xs : List (Int × Bool × Int)) : hX k ((a, v, c) :: xs) = if k = a then true else hX k xs := iff_dec k a true (hX k xs)
theorem sX_cons (k a : Int) (v : Bool) (c : Int) (xs : List (Int × Bool × Int)) : sX k ((a, v, c) :: xs) = if k = a then (a, true, c) :: xs else (a, v, c) :: sX k xs := iff_dec k a ((a, true, c) :: xs) ((a, v, c) :: sX k xs)
theorem get_set (j k : Int) : ∀ xs : List (Int × Bool × Int), hX k xs = true → gX j (sX k xs) = if j = k then true else gX j xs
  | [], h => by cases (show false = true from h)
  | (a, v, c) :: xs, h => by
    rw [sX_cons]
    rw [hX_cons] at h
    by_cases hk : k = a
    · subst hk
      rw [if_pos rfl, gX_cons, gX_cons]
      by_cases hj : j = k
      · rw [if_pos hj, if_pos hj]
      · rw [if_neg hj, if_neg hj, if_neg hj]
    · rw [if_neg hk] at h
      rw [if_neg hk, gX_cons, gX_cons, get_set j k xs h]
      by_cases hj : j = k
      · rw [if_pos hj, if_neg (fun e => hk (hj ▸ e)), if_pos hj]
      · rw [if_neg hj, if_neg hj]
theorem get_app (j k : Int) (c : Int) : ∀ xs : List (Int × Bool × Int), hX k xs = false → gX j (xs ++ [(k, true, c)]) = if j = k then true else gX j xs
  | [], _ => gX_cons j k true c []
  | (a, v, d) :: xs, h => by
    rw [hX_cons] at h
    by_cases hk : k = a
    · rw [if_pos hk] at h; cases h
    · rw [if_neg hk] at h
      rw [List.cons_append, gX_cons, gX_cons, get_app j k c xs h]
      by_cases hj : j = k
      · rw [if_pos hj, if_neg (fun e => hk (hj ▸ e)), if_pos hj]
      · rw [if_neg hj, if_neg hj]
theorem has_put (m : M) (j k : Int) : has (put m k) j = if j = k then true else has m j := by
  cases hx : hX k m.1 with
  | true =>
    have h1 : put m k = (sX k m.1, m.2) := putX_yes (kt := .int .i64) (vt := .bool) hx
    rw [h1]
    exact get_set j k m.1 hx
  | false =>
    have h1 : put m k = (m.1 ++ [(k, true, m.2)], Int.ofNat (Nat.succ (Int.toNat m.2))) := putX_no (kt := .int .i64) (vt := .bool) hx
    rw [h1]
    exact get_app j k m.2 m.1 hx
/-! ### a round -/
/-- the places of an event, put into a set -/
noncomputable def putP (p : M) (y : Int) : Option M := iff (and (leQ (Int.ofNat 0) y) (has p y)) none (some (put p y))
noncomputable def putsP (p : M) (e : El t80) : Option M := andThen (putP p (ac e)) fun q => putP q (sh e)
/-- is an event wrong behind the others? -/
noncomputable def badE (b : Int) (m : M) (e : El t80) : Bool := or (!validE e) (or (leQ (bg e) b) (and (leQ (Int.ofNat 0) (tk e)) (has m (tk e))))
abbrev S20 : Type := Int × M × M
noncomputable def stepE (s : S20) (e : El t80) : Option S20 := iff (badE s.1 s.2.1 e) none (andThen (putsP s.2.2 e) fun q => some (bg e, put s.2.1 (tk e), q))
abbrev X13 : Type := (Unit × Unit × Int × List (El t80) × Int × Int × List Int × Int × Int × Unit) × Unit × M × M × Unit
abbrev X20 : Type := (Unit × Unit × Int × List (El t80) × Int × Int × Unit) × Unit × M × M × Unit
abbrev R20 : Type := Unit × Unit × Unit ⊕ Int × Unit
noncomputable def st20 (l : List (El t80)) (k : Nat) (s : S20) : X20 := ((PUnit.unit, PUnit.unit, s.1, l, Int.ofNat l.length, Int.ofNat k, PUnit.unit), PUnit.unit, s.2.1, s.2.2, PUnit.unit)
theorem r20_l13_eq (n : Nat) (b : Int) (l : List (El t80)) (c i : Int) (xs : List Int) (j : Nat) (t p : M) (y : Int) (hj : j < 2) (hl : xs.length = 2) (hy : xs[j]? = some y) :
    r20_l13 n b l c i xs (Int.ofNat 2) (Int.ofNat j) t p = some (@Option.rec M (fun _ => X13 ⊕ X20 ⊕ X20 ⊕ R20) (.inr (.inr (.inr (.inr (Int.ofNat 8, PUnit.unit))))) (fun q => .inl ((PUnit.unit, PUnit.unit, b, l, c, i, xs, Int.ofNat 2, Int.ofNat (j + 1), PUnit.unit), PUnit.unit, t, q, PUnit.unit)) (putP p y)) := by
  unfold r20_l13
  refine (iff_nf (le_false hj)).trans ((andThen_of (inRange_nat (by rw [hl]; exact hj))).trans ((andThen_of (nthQ_some hy)).trans ?_))
  have inner : ∀ v, and (leQ (Int.ofNat 0) y) (has p y) = v → (iff (leQ (Int.ofNat 0) y)
      (some (Sum.inl (α := (Unit × Unit × Int × Int × List (El t80) × Int × Int × List Int × Int × Int × Bool × Unit) × Unit × M × M × Unit) (β := X13 ⊕ X20 ⊕ X20 ⊕ R20) ((PUnit.unit, PUnit.unit, b, y, l, c, i, xs, Int.ofNat 2, Int.ofNat j, getX (Ty.int IntKind.i64) Ty.bool y false p.1, PUnit.unit), PUnit.unit, t, p, PUnit.unit)))
      (some (Sum.inl ((PUnit.unit, PUnit.unit, b, y, l, c, i, xs, Int.ofNat 2, Int.ofNat j, false, PUnit.unit), PUnit.unit, t, p, PUnit.unit)))) = some (Sum.inl ((PUnit.unit, PUnit.unit, b, y, l, c, i, xs, Int.ofNat 2, Int.ofNat j, v, PUnit.unit), PUnit.unit, t, p, PUnit.unit)) := fun v hv => by
    subst hv
    cases leQ (Int.ofNat 0) y <;> rfl
  refine (andThen_of (inner _ rfl)).trans ?_
  show r20_j16 n b y l c i xs (Int.ofNat 2) (Int.ofNat j) (and (leQ (Int.ofNat 0) y) (has p y)) t p = _
  unfold r20_j16 putP
  have hw : wrapQ .i64 (Int.add (Int.ofNat j) (Int.ofNat 1)) = Int.ofNat (j + 1) := wrap_succ (by omega)
  rw [hw]
  cases and (leQ (Int.ofNat 0) y) (has p y) <;> rfl
noncomputable def body13 (n : Nat) (x : X13) : Option (X13 ⊕ X20 ⊕ X20 ⊕ R20) :=
  r20_l13 n (Prod.fst (Prod.snd (Prod.snd (Prod.fst x)))) (Prod.fst (Prod.snd (Prod.snd (Prod.snd (Prod.fst x)))))
    (Prod.fst (Prod.snd (Prod.snd (Prod.snd (Prod.snd (Prod.fst x))))))
    (Prod.fst (Prod.snd (Prod.snd (Prod.snd (Prod.snd (Prod.snd (Prod.fst x)))))))
    (Prod.fst (Prod.snd (Prod.snd (Prod.snd (Prod.snd (Prod.snd (Prod.snd (Prod.fst x))))))))
    (Prod.fst (Prod.snd (Prod.snd (Prod.snd (Prod.snd (Prod.snd (Prod.snd (Prod.snd (Prod.fst x)))))))))
    (Prod.fst (Prod.snd (Prod.snd (Prod.snd (Prod.snd (Prod.snd (Prod.snd (Prod.snd (Prod.snd (Prod.fst x))))))))))
    (Prod.fst (Prod.snd (Prod.snd x))) (Prod.fst (Prod.snd (Prod.snd (Prod.snd x))))
theorem loop13 (n m : Nat) (b : Int) (l : List (El t80)) (c i : Int) (a s : Int) (t p : M) (hm : 3 ≤ m) :
    iterF (body13 n) m ((PUnit.unit, PUnit.unit, b, l, c, i, [a, s], Int.ofNat 2, Int.ofNat 0, PUnit.unit), PUnit.unit, t, p, PUnit.unit) =
      some (@Option.rec M (fun _ => X20 ⊕ X20 ⊕ R20) (.inr (.inr (.inr (Int.ofNat 8, PUnit.unit)))) (fun q => .inl ((PUnit.unit, PUnit.unit, b, l, c, i, PUnit.unit), PUnit.unit, t, q, PUnit.unit)) (andThen (putP p a) fun q => putP q s)) := by
  obtain ⟨m, rfl⟩ : ∃ k, m = k + 3 := ⟨m - 3, by omega⟩
  have h1 := r20_l13_eq n b l c i [a, s] 0 t p a (by omega) rfl rfl
  cases hp : putP p a with
  | none =>
    rw [hp] at h1
    exact iterF_inr h1
  | some q =>
    rw [hp] at h1
    refine (iterF_inl h1).trans ?_
    have h2 := r20_l13_eq n b l c i [a, s] 1 t q s (by omega) rfl rfl
    show _ = some (@Option.rec M (fun _ => X20 ⊕ X20 ⊕ R20) _ _ (putP q s))
    cases hq : putP q s with
    | none =>
      rw [hq] at h2
      exact iterF_inr h2
    | some r =>
      rw [hq] at h2
      refine (iterF_inl h2).trans (iterF_inr ?_)
      show r20_l13 n b l c i [a, s] (Int.ofNat 2) (Int.ofNat 2) t r = _
      unfold r20_l13
      exact iff_nt (le_true (Nat.le_refl _))
theorem r20_l6_eq (n : Nat) (hn : 10 ≤ n) (l : List (El t80)) (hl : l.length ≤ 1000) (k : Nat) (s : S20) (e : El t80) (hk : l[k]? = some e) :
    r20_l6 n s.1 l (Int.ofNat l.length) (Int.ofNat k) s.2.1 s.2.2 = some (@Option.rec S20 (fun _ => X20 ⊕ R20) (.inr (.inr (Int.ofNat 8, PUnit.unit))) (fun s' => .inl (st20 l (k + 1) s')) (stepE s e)) := by
  have hlt := (List.getElem?_eq_some_iff.1 hk).1
  obtain ⟨b, t, p⟩ := s
  unfold r20_l6
  refine (iff_nf (le_false hlt)).trans ?_
  show andThen (andThen (inRange (Int.ofNat k) l.length) _) _ = _
  refine (andThen_of (a := @Option.rec S20 (fun _ => X20 ⊕ X20 ⊕ R20) (.inr (.inr (.inr (Int.ofNat 8, PUnit.unit)))) (fun s' => .inl ((PUnit.unit, PUnit.unit, s'.1, l, Int.ofNat l.length, Int.ofNat k, PUnit.unit), PUnit.unit, s'.2.1, s'.2.2, PUnit.unit)) (stepE (b, t, p) e)) ?_).trans ?_
  · refine (andThen_of (inRange_nat hlt)).trans ((andThen_of (nthQ_some hk)).trans ?_)
    refine (andThen_of (a := Sum.inl ((PUnit.unit, PUnit.unit, PUnit.unit, l, Int.ofNat l.length, Int.ofNat k, badE b t e, PUnit.unit), PUnit.unit, t, p, e, PUnit.unit)) ?_).trans ?_
    · refine (andThen_of (r37_all n (by omega) e)).trans ?_
      unfold badE
      show iff (!validE e) _ _ = _
      cases validE e with
      | false => rfl
      | true =>
        refine (iff_f rfl).trans ?_
        show iff (leQ (bg e) b) _ _ = some (Sum.inl ((PUnit.unit, PUnit.unit, PUnit.unit, l, Int.ofNat l.length, Int.ofNat k, or (leQ (bg e) b) (and (leQ (Int.ofNat 0) (tk e)) (has t (tk e))), PUnit.unit), PUnit.unit, t, p, e, PUnit.unit))
        cases leQ (bg e) b with
        | true => rfl
        | false =>
          refine (iff_f rfl).trans ?_
          show iff (leQ (Int.ofNat 0) (tk e)) _ _ = some (Sum.inl ((PUnit.unit, PUnit.unit, PUnit.unit, l, Int.ofNat l.length, Int.ofNat k, and (leQ (Int.ofNat 0) (tk e)) (has t (tk e)), PUnit.unit), PUnit.unit, t, p, e, PUnit.unit))
          cases leQ (Int.ofNat 0) (tk e) <;> rfl
    · show r20_j9 n l (Int.ofNat l.length) (Int.ofNat k) (badE b t e) t p e = _
      unfold r20_j9 stepE
      show iff (badE b t e) _ _ = some (@Option.rec S20 (fun _ => X20 ⊕ X20 ⊕ R20) _ _ (iff (badE b t e) none (andThen (putsP p e) fun q => some (bg e, put t (tk e), q))))
      cases badE b t e with
      | true => rfl
      | false =>
        refine (iff_f rfl).trans ((loop13 n n (bg e) l (Int.ofNat l.length) (Int.ofNat k) (ac e) (sh e) (put t (tk e)) p (by omega)).trans ?_)
        show some (@Option.rec M (fun _ => X20 ⊕ X20 ⊕ R20) _ _ (putsP p e)) = _
        rw [iff_f rfl]
        cases putsP p e <;> rfl
  · cases stepE (b, t, p) e with
    | none => rfl
    | some s' =>
      show r20_j19 n s'.1 l (Int.ofNat l.length) (Int.ofNat k) s'.2.1 s'.2.2 = _
      unfold r20_j19
      rw [wrap_succ (by omega)]
      rfl
/-- the code of a check -/
noncomputable def foldE : List (El t80) → S20 → Int
  | [], _ => Int.ofNat 0
  | e :: l, s => @Option.rec S20 (fun _ => Int) (Int.ofNat 8) (fun s' => foldE l s') (stepE s e)
noncomputable def code (l : List (El t80)) : Int := iff (leQ (Int.ofNat l.length) (Int.ofNat 120)) (foldE l (Int.negSucc 0, ([], Int.ofNat 0), ([], Int.ofNat 0))) (Int.ofNat 4)
theorem r20_eq (n : Nat) (hn : 200 ≤ n) (l : List (El t80)) : r20 n (l, PUnit.unit) = some (code l, PUnit.unit) := by
  show r20c n l = _
  unfold r20c code
  cases hl : leQ (Int.ofNat l.length) (Int.ofNat 120) with
  | false => rfl
  | true =>
    rw [leQ_nat, decide_eq_true_eq] at hl
    refine (iff_f rfl).trans ?_
    have key : ∀ (r : List (El t80)) (k m : Nat) (s : S20), l.drop k = r → k + r.length = l.length → r.length < m →
        andThen (iterF (fun (x : X20) => r20_l6 n (Prod.fst (Prod.snd (Prod.snd (Prod.fst x)))) (Prod.fst (Prod.snd (Prod.snd (Prod.snd (Prod.fst x))))) (Prod.fst (Prod.snd (Prod.snd (Prod.snd (Prod.snd (Prod.fst x)))))) (Prod.fst (Prod.snd (Prod.snd (Prod.snd (Prod.snd (Prod.snd (Prod.fst x))))))) (Prod.fst (Prod.snd (Prod.snd x))) (Prod.fst (Prod.snd (Prod.snd (Prod.snd x))))) m (st20 l k s))
          (sumK fun (x : Unit × Unit × Unit) => r20_j20 n) = some (foldE r s, PUnit.unit) := by
      intro r
      induction r with
      | nil =>
        intro k m s _ hk hm
        have hk : k = l.length := by simpa using hk
        subst hk
        cases m with
        | zero => simp at hm
        | succ m =>
          refine (andThen_of (iterF_inr (r := .inl (PUnit.unit, PUnit.unit, PUnit.unit)) ?_)).trans rfl
          show r20_l6 n s.1 l (Int.ofNat l.length) (Int.ofNat l.length) s.2.1 s.2.2 = _
          unfold r20_l6
          exact iff_nt (le_true (Nat.le_refl _))
      | cons e r ih =>
        intro k m s hd hk hm
        have he : l[k]? = some e := by
          have : (l.drop k)[0]? = some e := by rw [hd]; rfl
          rwa [List.getElem?_drop, Nat.add_zero] at this
        cases m with
        | zero => simp at hm
        | succ m =>
          have hs := r20_l6_eq n (by omega) l (by omega) k s e he
          unfold foldE
          cases hst : stepE s e with
          | none =>
            rw [hst] at hs
            exact (andThen_of (iterF_inr hs)).trans rfl
          | some s' =>
            rw [hst] at hs
            refine (congrArg (fun o => andThen o (sumK fun (x : Unit × Unit × Unit) => r20_j20 n)) (iterF_inl hs)).trans ?_
            exact ih (k + 1) m s' (by rw [← List.drop_drop, hd]; rfl) (by simp at hk; omega) (by simp at hm; omega)
    exact key l 0 n (Int.negSucc 0, ([], Int.ofNat 0), ([], Int.ofNat 0)) rfl (by omega) (by omega)
end L
end Go.Proofs.Ytlhagmgfffigfaa
