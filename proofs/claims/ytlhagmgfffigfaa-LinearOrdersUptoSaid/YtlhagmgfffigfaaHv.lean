/- HistoryReads, plainly: when an event is valid by itself. Conditions: none. -/
import Derived.Test.YtlhagmgfffigfaaL37
import Derived.Test.YtlhagmgfffigfaaL38
import Derived.Test.YtlhagmgfffigfaaMachG
set_option maxRecDepth 100000
namespace Go.Proofs.Ytlhagmgfffigfaa
open Go Go.Abs
namespace L
noncomputable def ptB (x f : Int) : Bool := or (eqQ x (Int.negSucc 0)) (and (leQ f x) (!leQ (Int.ofNat 120) x))
noncomputable def lsB (x y : Int) : Bool := or (!leQ (Int.ofNat 0) x) (or (!leQ (Int.ofNat 0) y) (!leQ y x))
theorem r49_eq (n : Nat) (x f : Int) : r49 n (x, f, PUnit.unit) = some (ptB x f, PUnit.unit) := by
  show r49c n x f = _
  unfold r49c ptB
  cases eqQ x (Int.negSucc 0) <;> cases leQ f x <;> rfl
theorem r50_eq (n : Nat) (x f : Int) : r50 n (x, f, PUnit.unit) = some (ptB x f, PUnit.unit) := by
  show r50c n x f = _
  unfold r50c ptB
  cases eqQ x (Int.negSucc 0) <;> cases leQ f x <;> rfl
theorem r51_eq (n : Nat) (x y : Int) : r51 n (x, y, PUnit.unit) = some (lsB x y, PUnit.unit) := by
  show r51c n x y = _
  unfold r51c lsB
  cases leQ (Int.ofNat 0) x <;> cases leQ (Int.ofNat 0) y <;> rfl
/-- valid, as the reference says it -/
noncomputable def vB (tk b a s sh d : Int) : Bool :=
  and (leQ (Int.ofNat 0) b) (and (!leQ (Int.ofNat 120) b) (and (ptB a b) (and (ptB s b) (and (ptB sh b) (and (ptB d b) (and (leQ (Int.negSucc 0) tk) (and (eqBl (leQ (Int.ofNat 0) tk) (leQ (Int.ofNat 0) s)) (and (lsB a s) (and (lsB s sh) (and (lsB a sh)
    (or (!leQ (Int.ofNat 0) d) (and (leQ a d) (and (leQ s d) (leQ sh d))))))))))))))
noncomputable def validE (e : El t80) : Bool := vB e.2.2.2.2.2.1 e.2.2.2.2.2.2.1 e.2.2.2.2.2.2.2.1 e.2.2.2.2.2.2.2.2.1 e.2.2.2.2.2.2.2.2.2.1 e.2.2.2.2.2.2.2.2.2.2.1
theorem r38_j4_eq (n : Nat) (e : El t80) : r38_j4 n false e = some (or (!leQ (Int.ofNat 0) e.2.2.2.2.2.2.2.2.2.2.1) (and (leQ e.2.2.2.2.2.2.2.1 e.2.2.2.2.2.2.2.2.2.2.1) (and (leQ e.2.2.2.2.2.2.2.2.1 e.2.2.2.2.2.2.2.2.2.2.1) (leQ e.2.2.2.2.2.2.2.2.2.1 e.2.2.2.2.2.2.2.2.2.2.1))), PUnit.unit) := by
  obtain ⟨e1, e2, e3, e4, e5, tk, b, a, s, sh, d, e6, u⟩ := e
  show iff (!leQ (Int.ofNat 0) d) (some (true, PUnit.unit)) (iff (leQ a d) (iff (leQ s d) (some (leQ sh d, PUnit.unit)) (some (false, PUnit.unit))) (some (false, PUnit.unit))) = some (or (!leQ (Int.ofNat 0) d) (and (leQ a d) (and (leQ s d) (leQ sh d))), PUnit.unit)
  cases leQ (Int.ofNat 0) d <;> cases leQ a d <;> cases leQ s d <;> rfl
/-- the later part of it -/
noncomputable def wB (tk a s sh d : Int) : Bool :=
  and (leQ (Int.negSucc 0) tk) (and (eqBl (leQ (Int.ofNat 0) tk) (leQ (Int.ofNat 0) s)) (and (lsB a s) (and (lsB s sh) (and (lsB a sh) (or (!leQ (Int.ofNat 0) d) (and (leQ a d) (and (leQ s d) (leQ sh d))))))))
theorem r38_j2_eq (n : Nat) (e1 e2 : Int) (e3 : El t78) (e4 : List Int) (e5 tk b a s sh d : Int) (e6 : El t64) : r38_j2 n false ((e1, e2, e3, e4, e5, tk, b, a, s, sh, d, e6, PUnit.unit) : El t80) = some (wB tk a s sh d, PUnit.unit) := by
  unfold r38_j2 wB
  dsimp only
  simp only [r51_eq]
  cases leQ (Int.negSucc 0) tk
  · rfl
  cases eqBl (leQ (Int.ofNat 0) tk) (leQ (Int.ofNat 0) s)
  · rfl
  cases lsB a s
  · rfl
  cases lsB s sh
  · rfl
  cases lsB a sh
  · rfl
  exact r38_j4_eq n _
theorem r38_eq (n : Nat) (e1 e2 : Int) (e3 : El t78) (e4 : List Int) (e5 tk b a s sh d : Int) (e6 : El t64) : r38 n (((e1, e2, e3, e4, e5, tk, b, a, s, sh, d, e6, PUnit.unit) : El t80), PUnit.unit) = some (vB tk b a s sh d, PUnit.unit) := by
  show r38c n _ = _
  unfold r38c vB
  dsimp only
  simp only [r50_eq]
  cases leQ (Int.ofNat 0) b
  · rfl
  cases leQ (Int.ofNat 120) b
  rotate_left
  · rfl
  cases ptB a b
  · rfl
  cases ptB s b
  · rfl
  cases ptB sh b
  · rfl
  cases ptB d b
  · rfl
  exact r38_j2_eq n e1 e2 e3 e4 e5 tk b a s sh d e6
theorem r38_all (n : Nat) (e : El t80) : r38 n (e, PUnit.unit) = some (validE e, PUnit.unit) := by
  obtain ⟨e1, e2, e3, e4, e5, tk, b, a, s, sh, d, e6, u⟩ := e
  exact r38_eq n e1 e2 e3 e4 e5 tk b a s sh d e6
/-- one point of an event, after the last one -/
noncomputable def stV (b last y : Int) : Option Int := iff (ptB y b) (iff (and (leQ (Int.ofNat 0) y) (leQ y last)) none (some (iff (leQ y last) last y))) none
abbrev X37 : Type := (Unit × Int × List Int × Int × Int × Unit) × Unit × El t80 × Unit
abbrev R37 : Type := (Unit × Int × Unit) × Unit × El t80 × Unit ⊕ Bool × Unit
noncomputable def at37 (e : El t80) (xs : List Int) (k : Nat) (last : Int) : X37 := ((PUnit.unit, last, xs, Int.ofNat 3, Int.ofNat k, PUnit.unit), PUnit.unit, e, PUnit.unit)
noncomputable def on37 (e : El t80) (xs : List Int) (k : Nat) : Option Int → X37 ⊕ R37
  | some l => .inl (at37 e xs k l)
  | none => .inr (.inr (false, PUnit.unit))
theorem r37_l5_eq (n : Nat) (e : El t80) (xs : List Int) (k : Nat) (last y : Int) (hk : k < 3) (hl : xs.length = 3) (hy : xs[k]? = some y) :
    r37_l5 n last xs (Int.ofNat 3) (Int.ofNat k) e = some (on37 e xs (k + 1) (stV e.2.2.2.2.2.2.1 last y)) := by
  unfold r37_l5
  refine (iff_nf (le_false hk)).trans ((andThen_of (inRange_nat (by rw [hl]; exact hk))).trans ((andThen_of (nthQ_some hy)).trans ?_))
  have inner : ∀ c, (iff (ptB y e.2.2.2.2.2.2.1) (and (leQ (Int.ofNat 0) y) (leQ y last)) true) = c → (andThen (r49 n (y, e.2.2.2.2.2.2.1, PUnit.unit)) fun (y10 : ElL (Con.B (r49k n))) =>
      iff (!y10.1) (some (Sum.inl (α := (Unit × Int × Int × List Int × Int × Int × Bool × Unit) × Unit × El t80 × Unit) (β := X37 ⊕ R37) ((PUnit.unit, last, y, xs, Int.ofNat 3, Int.ofNat k, true, PUnit.unit), PUnit.unit, e, PUnit.unit)))
        (iff (leQ (Int.ofNat 0) y) (some (Sum.inl ((PUnit.unit, last, y, xs, Int.ofNat 3, Int.ofNat k, leQ y last, PUnit.unit), PUnit.unit, e, PUnit.unit)))
          (some (Sum.inl ((PUnit.unit, last, y, xs, Int.ofNat 3, Int.ofNat k, false, PUnit.unit), PUnit.unit, e, PUnit.unit))))) =
      some (Sum.inl ((PUnit.unit, last, y, xs, Int.ofNat 3, Int.ofNat k, c, PUnit.unit), PUnit.unit, e, PUnit.unit)) := fun c hc => by
    refine (andThen_of (r49_eq n y _)).trans ?_
    subst hc
    cases ptB y e.2.2.2.2.2.2.1
    · rfl
    cases leQ (Int.ofNat 0) y <;> rfl
  refine (andThen_of (inner _ rfl)).trans ?_
  show r37_j8 n last y xs (Int.ofNat 3) (Int.ofNat k) (iff (ptB y e.2.2.2.2.2.2.1) (and (leQ (Int.ofNat 0) y) (leQ y last)) true) e = _
  unfold r37_j8 stV
  cases ptB y e.2.2.2.2.2.2.1
  · rfl
  cases and (leQ (Int.ofNat 0) y) (leQ y last)
  · show some _ = some _
    rw [wrap_succ (by omega)]
    rfl
  · rfl
noncomputable def chV (b : Int) : List Int → Int → Option Int
  | [], l => some l
  | y :: r, l => andThen (stV b l y) (chV b r)
noncomputable def out37 (e : El t80) : Option Int → R37
  | some l => .inl ((PUnit.unit, l, PUnit.unit), PUnit.unit, e, PUnit.unit)
  | none => .inr (false, PUnit.unit)
noncomputable def body37 (n : Nat) (x : X37) : Option (X37 ⊕ R37) := r37_l5 n (Prod.fst (Prod.snd (Prod.fst x))) (Prod.fst (Prod.snd (Prod.snd (Prod.fst x)))) (Prod.fst (Prod.snd (Prod.snd (Prod.snd (Prod.fst x))))) (Prod.fst (Prod.snd (Prod.snd (Prod.snd (Prod.snd (Prod.fst x)))))) (Prod.fst (Prod.snd (Prod.snd x)))
theorem loop37 (n : Nat) (e : El t80) (xs : List Int) (hl : xs.length = 3) : ∀ (r : List Int) (k m : Nat) (l : Int), xs.drop k = r → k + r.length = 3 → r.length < m → iterF (body37 n) m (at37 e xs k l) = some (out37 e (chV e.2.2.2.2.2.2.1 r l)) := by
  intro r
  induction r with
  | nil =>
    intro k m l _ hk hm
    have hk : k = 3 := by simpa using hk
    subst hk
    cases m with
    | zero => simp at hm
    | succ m =>
      refine iterF_inr ?_
      show r37_l5 n l xs (Int.ofNat 3) (Int.ofNat 3) e = _
      exact iff_nt (le_true (Nat.le_refl _))
  | cons y r ih =>
    intro k m l hd hk hm
    have hy : xs[k]? = some y := by
      have : (xs.drop k)[0]? = some y := by rw [hd]; rfl
      rwa [List.getElem?_drop, Nat.add_zero] at this
    have hk3 : k < 3 := by simp at hk; omega
    have h1 : body37 n (at37 e xs k l) = some (on37 e xs (k + 1) (stV e.2.2.2.2.2.2.1 l y)) := r37_l5_eq n e xs k l y hk3 hl hy
    cases m with
    | zero => simp at hm
    | succ m =>
      show _ = some (out37 e (andThen (stV e.2.2.2.2.2.2.1 l y) (chV e.2.2.2.2.2.2.1 r)))
      cases hs : stV e.2.2.2.2.2.2.1 l y with
      | none => rw [hs] at h1; exact iterF_inr h1
      | some l' =>
        rw [hs] at h1
        refine (iterF_inl h1).trans ?_
        exact ih (k + 1) m l' (by rw [← List.drop_drop, hd]; rfl) (by simp at hk; omega) (by simp at hm; omega)
/-- valid, as the program says it -/
noncomputable def uB (tk b a s sh d : Int) : Bool :=
  and (leQ (Int.ofNat 0) b) (and (!leQ (Int.ofNat 120) b) (and (leQ (Int.negSucc 0) tk) (and (eqBl (eqQ tk (Int.negSucc 0)) (eqQ s (Int.negSucc 0)))
    (@Option.rec Int (fun _ => Bool) false (fun l => and (ptB d b) (or (eqQ d (Int.negSucc 0)) (leQ l d))) (chV b [a, s, sh] (Int.negSucc 0))))))
theorem r37_j2_eq (n : Nat) (hn : 4 ≤ n) (e1 e2 : Int) (e3 : El t78) (e4 : List Int) (e5 tk b a s sh d : Int) (e6 : El t64) : r37_j2 n false ((e1, e2, e3, e4, e5, tk, b, a, s, sh, d, e6, PUnit.unit) : El t80) =
    some ((@Option.rec Int (fun _ => Bool) false (fun l => and (ptB d b) (or (eqQ d (Int.negSucc 0)) (leQ l d))) (chV b [a, s, sh] (Int.negSucc 0))), PUnit.unit) := by
  unfold r37_j2
  refine (iff_f rfl).trans ((andThen_of (loop37 n _ [a, s, sh] rfl [a, s, sh] 0 n (Int.negSucc 0) rfl rfl (by show 3 < n; omega))).trans ?_)
  show sumK _ (out37 _ (chV b [a, s, sh] (Int.negSucc 0))) = _
  cases chV b [a, s, sh] (Int.negSucc 0) with
  | none => rfl
  | some l =>
    show r37_j11 n l _ = _
    unfold r37_j11
    refine (andThen_of (r49_eq n d b)).trans ?_
    cases ptB d b
    · rfl
    show iff (eqQ d (Int.negSucc 0)) (some (true, PUnit.unit)) (some (leQ l d, PUnit.unit)) = some (or (eqQ d (Int.negSucc 0)) (leQ l d), PUnit.unit)
    cases eqQ d (Int.negSucc 0) <;> rfl
theorem r37_eq (n : Nat) (hn : 4 ≤ n) (e1 e2 : Int) (e3 : El t78) (e4 : List Int) (e5 tk b a s sh d : Int) (e6 : El t64) : r37 n (((e1, e2, e3, e4, e5, tk, b, a, s, sh, d, e6, PUnit.unit) : El t80), PUnit.unit) = some (uB tk b a s sh d, PUnit.unit) := by
  show r37c n _ = _
  unfold r37c uB
  dsimp only
  cases leQ (Int.ofNat 0) b
  · rfl
  cases leQ (Int.ofNat 120) b
  rotate_left
  · rfl
  cases leQ (Int.negSucc 0) tk
  · rfl
  cases eqBl (eqQ tk (Int.negSucc 0)) (eqQ s (Int.negSucc 0))
  · rfl
  exact r37_j2_eq n hn e1 e2 e3 e4 e5 tk b a s sh d e6
/-! ### both are the same -/
def Pt (y b : Int) : Prop := y = -1 ∨ (b ≤ y ∧ y < 120)
theorem ptB_iff (y b : Int) : ptB y b = true ↔ Pt y b := by
  unfold ptB Pt
  rw [leQ_dec, leQ_dec, eqQ_dec]
  simp only [Bool.or_eq_true, Bool.and_eq_true, decide_eq_true_eq, Bool.not_eq_true', decide_eq_false_iff_not]
  show (y = -1 ∨ b ≤ y ∧ ¬ (120 : Int) ≤ y) ↔ _
  omega
theorem lsB_iff (x y : Int) : lsB x y = true ↔ (x < 0 ∨ y < 0 ∨ x < y) := by
  unfold lsB
  rw [leQ_dec, leQ_dec, leQ_dec]
  simp only [Bool.or_eq_true, Bool.not_eq_true', decide_eq_false_iff_not]
  show (¬ (0 : Int) ≤ x ∨ ¬ (0 : Int) ≤ y ∨ ¬ y ≤ x) ↔ _
  omega
theorem stV_some (b last y l : Int) : stV b last y = some l ↔ Pt y b ∧ ¬ (0 ≤ y ∧ y ≤ last) ∧ l = max last y := by
  unfold stV
  cases hp : ptB y b with
  | false =>
    rw [iff_f rfl]
    have : ¬ Pt y b := fun h => by rw [(ptB_iff y b).2 h] at hp; cases hp
    exact ⟨fun h => (by cases h), fun h => absurd h.1 this⟩
  | true =>
    rw [iff_t rfl, leQ_dec, leQ_dec]
    have hP := (ptB_iff y b).1 hp
    by_cases hc : (0 ≤ y ∧ y ≤ last)
    · rw [iff_t (by rw [Bool.and_eq_true, decide_eq_true_eq, decide_eq_true_eq]; exact hc)]
      exact ⟨fun h => (by cases h), fun h => absurd hc h.2.1⟩
    · rw [iff_f (by
        rw [Bool.and_eq_false_iff, decide_eq_false_iff_not, decide_eq_false_iff_not]
        show ¬ (0 : Int) ≤ y ∨ _
        omega)]
      by_cases hl : y ≤ last
      · rw [iff_t (decide_eq_true hl)]
        constructor
        · intro h; cases h; exact ⟨hP, hc, by omega⟩
        · intro h; rw [h.2.2]; congr 1; omega
      · rw [iff_f (decide_eq_false hl)]
        constructor
        · intro h; cases h; exact ⟨hP, hc, by omega⟩
        · intro h; rw [h.2.2]; congr 1; omega
theorem chV_some (b a s sh l : Int) : chV b [a, s, sh] (-1) = some l ↔ Pt a b ∧ Pt s b ∧ Pt sh b ∧ ¬ (0 ≤ s ∧ s ≤ max (-1) a) ∧ ¬ (0 ≤ sh ∧ sh ≤ max (max (-1) a) s) ∧ l = max (max (max (-1) a) s) sh := by
  constructor
  · intro h
    obtain ⟨l1, h1, h⟩ := andThen_eq (show andThen (stV b (-1) a) (chV b [s, sh]) = some l from h)
    obtain ⟨l2, h2, h⟩ := andThen_eq (show andThen (stV b l1 s) (chV b [sh]) = some l from h)
    obtain ⟨l3, h3, h⟩ := andThen_eq (show andThen (stV b l2 sh) (chV b []) = some l from h)
    cases h
    obtain ⟨g1, g2, rfl⟩ := (stV_some _ _ _ _).1 h1
    obtain ⟨g3, g4, rfl⟩ := (stV_some _ _ _ _).1 h2
    obtain ⟨g5, g6, rfl⟩ := (stV_some _ _ _ _).1 h3
    exact ⟨g1, g3, g5, g4, g6, rfl⟩
  · intro ⟨g1, g2, g3, g4, g5, g6⟩
    show andThen (stV b (-1) a) (chV b [s, sh]) = some l
    rw [(stV_some b (-1) a _).2 ⟨g1, by omega, rfl⟩]
    show andThen (stV b (max (-1) a) s) (chV b [sh]) = some l
    rw [(stV_some b _ s _).2 ⟨g2, g4, rfl⟩]
    show andThen (stV b (max (max (-1) a) s) sh) (chV b []) = some l
    rw [(stV_some b _ sh _).2 ⟨g3, g5, rfl⟩, g6]; rfl
theorem eqBl_iff (a b : Bool) : eqBl a b = true ↔ (a = true ↔ b = true) := by cases a <;> cases b <;> decide
theorem uB_eq (tk b a s sh d : Int) : uB tk b a s sh d = vB tk b a s sh d := by
  rw [Bool.eq_iff_iff]
  have hu : uB tk b a s sh d = true ↔ 0 ≤ b ∧ b < 120 ∧ -1 ≤ tk ∧ (tk = -1 ↔ s = -1) ∧ ∃ l, chV b [a, s, sh] (-1) = some l ∧ Pt d b ∧ (d = -1 ∨ l ≤ d) := by
    unfold uB
    simp only [Bool.and_eq_true, leQ_dec, eqQ_dec, eqBl_iff, decide_eq_true_eq, Bool.not_eq_true', decide_eq_false_iff_not]
    show ((0 : Int) ≤ b ∧ ¬ (120 : Int) ≤ b ∧ (-1 : Int) ≤ tk ∧ (tk = -1 ↔ s = -1) ∧ (@Option.rec Int (fun _ => Bool) false (fun l => and (ptB d b) (or (decide (d = -1)) (decide (l ≤ d)))) (chV b [a, s, sh] (-1))) = true) ↔ _
    have : (@Option.rec Int (fun _ => Bool) false (fun l => and (ptB d b) (or (decide (d = -1)) (decide (l ≤ d)))) (chV b [a, s, sh] (-1))) = true ↔ ∃ l, chV b [a, s, sh] (-1) = some l ∧ Pt d b ∧ (d = -1 ∨ l ≤ d) := by
      cases chV b [a, s, sh] (-1) with
      | none => exact ⟨fun h => (by cases h), fun ⟨_, h, _⟩ => (by cases h)⟩
      | some l =>
        show (and (ptB d b) (or (decide (d = -1)) (decide (l ≤ d)))) = true ↔ _
        rw [Bool.and_eq_true, Bool.or_eq_true, decide_eq_true_eq, decide_eq_true_eq, ptB_iff]
        exact ⟨fun h => ⟨l, rfl, h⟩, fun ⟨_, h1, h2⟩ => by cases h1; exact h2⟩
    rw [this]
    constructor
    · intro ⟨h1, h2, h3⟩; exact ⟨h1, by omega, h3⟩
    · intro ⟨h1, h2, h3⟩; exact ⟨h1, by omega, h3⟩
  have hv : vB tk b a s sh d = true ↔ 0 ≤ b ∧ b < 120 ∧ Pt a b ∧ Pt s b ∧ Pt sh b ∧ Pt d b ∧ -1 ≤ tk ∧ (0 ≤ tk ↔ 0 ≤ s) ∧ (a < 0 ∨ s < 0 ∨ a < s) ∧ (s < 0 ∨ sh < 0 ∨ s < sh) ∧ (a < 0 ∨ sh < 0 ∨ a < sh) ∧ (d < 0 ∨ (a ≤ d ∧ s ≤ d ∧ sh ≤ d)) := by
    unfold vB
    simp only [Bool.and_eq_true, Bool.or_eq_true, ptB_iff, lsB_iff, leQ_dec, eqBl_iff, decide_eq_true_eq, Bool.not_eq_true', decide_eq_false_iff_not]
    show ((0 : Int) ≤ b ∧ ¬ (120 : Int) ≤ b ∧ Pt a b ∧ Pt s b ∧ Pt sh b ∧ Pt d b ∧ (-1 : Int) ≤ tk ∧ ((0 : Int) ≤ tk ↔ (0 : Int) ≤ s) ∧ (a < 0 ∨ s < 0 ∨ a < s) ∧ (s < 0 ∨ sh < 0 ∨ s < sh) ∧ (a < 0 ∨ sh < 0 ∨ a < sh) ∧ (¬ (0 : Int) ≤ d ∨ a ≤ d ∧ s ≤ d ∧ sh ≤ d)) ↔ _
    constructor
    · intro ⟨h1, h2, h3⟩; exact ⟨h1, by omega, by obtain ⟨a1, a2, a3, a4, a5, a6, a7, a8, a9, a10⟩ := h3; exact ⟨a1, a2, a3, a4, a5, a6, a7, a8, a9, by omega⟩⟩
    · intro ⟨h1, h2, h3⟩; exact ⟨h1, by omega, by obtain ⟨a1, a2, a3, a4, a5, a6, a7, a8, a9, a10⟩ := h3; exact ⟨a1, a2, a3, a4, a5, a6, a7, a8, a9, by omega⟩⟩
  rw [hu, hv]
  constructor
  · intro ⟨h1, h2, h3, h4, l, h5, h6, h7⟩
    obtain ⟨g1, g2, g3, g4, g5, rfl⟩ := (chV_some b a s sh l).1 h5
    refine ⟨h1, h2, g1, g2, g3, h6, h3, ?_⟩
    unfold Pt at *
    omega
  · intro ⟨h1, h2, g1, g2, g3, h6, h3, h4, h7, h8, h9, h10⟩
    refine ⟨h1, h2, h3, ?_, _, (chV_some b a s sh _).2 ⟨g1, g2, g3, ?_, ?_, rfl⟩, h6, ?_⟩
    all_goals (unfold Pt at *; omega)
theorem r37_all (n : Nat) (hn : 4 ≤ n) (e : El t80) : r37 n (e, PUnit.unit) = some (validE e, PUnit.unit) := by
  obtain ⟨e1, e2, e3, e4, e5, tk, b, a, s, sh, d, e6, u⟩ := e
  refine (r37_eq n hn e1 e2 e3 e4 e5 tk b a s sh d e6).trans ?_
  exact congrArg (fun c : Bool => some (c, PUnit.unit)) (uB_eq tk b a s sh d)
end L
end Go.Proofs.Ytlhagmgfffigfaa
