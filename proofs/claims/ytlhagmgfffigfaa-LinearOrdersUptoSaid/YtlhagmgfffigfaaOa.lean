/- LinearOrders, plainly, first part: the program's and the reference's word for an order that holds all points. Conditions: lists are short. -/
import Derived.Test.YtlhagmgfffigfaaOz
import Derived.Test.YtlhagmgfffigfaaL42
import Derived.Test.YtlhagmgfffigfaaL44
set_option maxRecDepth 100000
namespace Go.Proofs.Ytlhagmgfffigfaa
open Go Go.Abs
namespace L
/-! ### what the program does: a map of all points, and every point of the order taken out -/
abbrev EP : Type := El t82 × Bool × Int
abbrev MP : Type := List EP × Int
noncomputable def gP (k : El t82) (xs : List EP) : Bool := getX t82 .bool k false xs
noncomputable def hP (k : El t82) (xs : List EP) : Bool := hasX t82 .bool k xs
noncomputable def dP (k : El t82) (xs : List EP) : List EP := delX t82 .bool k xs
noncomputable def inP (m : MP) (k : El t82) : MP := putX t82 .bool k true m
noncomputable def offP (m : MP) (k : El t82) : MP := (dP k m.1, m.2)
theorem eP_iff (a b : El t82) : eqE t82 a b = true ↔ a = b := eqE_iff rfl a b
def keysP (xs : List EP) : List (El t82) := xs.map (·.1)
def AllT (xs : List EP) : Prop := ∀ x ∈ xs, x.2.1 = true
theorem hP_iff (k : El t82) : ∀ xs : List EP, hP k xs = true ↔ k ∈ keysP xs
  | [] => by
    constructor
    · intro h; cases (show false = true from h)
    · intro h; cases h
  | x :: xs => by
    show iff (eqE t82 k x.1) true (hP k xs) = true ↔ k ∈ x.1 :: keysP xs
    rw [List.mem_cons, ← hP_iff k xs, ← eP_iff]
    cases eqE t82 k x.1 with
    | true => exact ⟨fun _ => .inl rfl, fun _ => rfl⟩
    | false => exact ⟨fun h => .inr h, fun h => h.elim (fun h => by cases h) id⟩
theorem gP_iff (k : El t82) : ∀ xs : List EP, AllT xs → (gP k xs = true ↔ k ∈ keysP xs)
  | [], _ => by
    constructor
    · intro h; cases (show false = true from h)
    · intro h; cases h
  | x :: xs, ht => by
    show iff (eqE t82 k x.1) x.2.1 (gP k xs) = true ↔ k ∈ x.1 :: keysP xs
    rw [List.mem_cons, ← gP_iff k xs (fun y hy => ht y (List.mem_cons_of_mem _ hy)), ← eP_iff]
    have h1 := ht x (List.mem_cons_self ..)
    cases eqE t82 k x.1 with
    | true => exact ⟨fun _ => .inl rfl, fun _ => h1⟩
    | false => exact ⟨fun h => .inr h, fun h => h.elim (fun h => by cases h) id⟩
theorem dP_perm (k : El t82) : ∀ xs : List EP, k ∈ keysP xs → (keysP xs).Perm (k :: keysP (dP k xs))
  | [], h => by cases h
  | x :: xs, h => by
    show (x.1 :: keysP xs).Perm (k :: keysP (iff (eqE t82 k x.1) xs (x :: dP k xs)))
    cases he : eqE t82 k x.1 with
    | true =>
      rw [(eP_iff _ _).1 he]
      exact List.Perm.refl _
    | false =>
      have hk : k ∈ keysP xs := by
        rcases List.mem_cons.1 (show k ∈ x.1 :: keysP xs from h) with h | h
        · rw [(eP_iff _ _).2 h] at he; cases he
        · exact h
      exact ((dP_perm k xs hk).cons x.1).trans (List.Perm.swap ..)
theorem dP_mem (k : El t82) : ∀ (xs : List EP) (y : EP), y ∈ dP k xs → y ∈ xs
  | [], _, h => h
  | x :: xs, y, h => by
    have h : y ∈ iff (eqE t82 k x.1) xs (x :: dP k xs) := h
    cases he : eqE t82 k x.1 with
    | true => rw [he] at h; exact List.mem_cons_of_mem _ h
    | false =>
      rw [he] at h
      rcases List.mem_cons.1 (show y ∈ x :: dP k xs from h) with h | h
      · rw [h]; exact List.mem_cons_self ..
      · exact List.mem_cons_of_mem _ (dP_mem k xs y h)
theorem dP_all {k : El t82} {xs : List EP} (h : AllT xs) : AllT (dP k xs) := fun y hy => h y (dP_mem k xs y hy)
/-- the points of the order are taken out, one by one; nothing stays -/
noncomputable def outP : List (El t82) → MP → Bool
  | [], m => eqQ (Int.ofNat m.1.length) (Int.ofNat 0)
  | y :: r, m => iff (gP y m.1) (outP r (offP m y)) false
theorem outP_iff : ∀ (p : List (El t82)) (m : MP), AllT m.1 → (outP p m = true ↔ p.Perm (keysP m.1))
  | [], m, _ => by
    show eqQ (Int.ofNat m.1.length) (Int.ofNat 0) = true ↔ _
    rw [eqQ_nat, decide_eq_true_eq]
    constructor
    · intro h
      rw [List.eq_nil_of_length_eq_zero h]
      exact List.Perm.refl _
    · intro h
      have := h.length_eq
      rw [keysP, List.length_map] at this
      simpa using this.symm
  | y :: r, m, ht => by
    show iff (gP y m.1) (outP r (offP m y)) false = true ↔ _
    have hg := gP_iff y m.1 ht
    cases hc : gP y m.1 with
    | true =>
      rw [hc] at hg
      have h1 := dP_perm y m.1 (hg.1 rfl)
      have h2 := outP_iff r (offP m y) (dP_all ht)
      show outP r (offP m y) = true ↔ _
      rw [h2]
      constructor
      · intro h; exact (h.cons y).trans h1.symm
      · intro h; exact (h.trans h1).cons_inv
    | false =>
      rw [hc] at hg
      constructor
      · intro h; cases (show false = true from h)
      · intro h; exact hg.2 (h.mem_iff.1 (List.mem_cons_self ..))
theorem put_keys {m : MP} {y : El t82} (h : y ∉ keysP m.1) : (inP m y).1 = m.1 ++ [(y, true, m.2)] := by
  have hh : hasX t82 .bool y m.1 = false := by
    cases hc : hP y m.1 with
    | true => exact absurd ((hP_iff y m.1).1 hc) h
    | false => exact hc
  exact congrArg Prod.fst (putX_no hh)
theorem puts_keys : ∀ (l : List (El t82)) (m : MP), l.Nodup → (∀ x ∈ l, x ∉ keysP m.1) → AllT m.1 → keysP (l.foldl inP m).1 = keysP m.1 ++ l ∧ AllT (l.foldl inP m).1
  | [], m, _, _, ht => ⟨(List.append_nil _).symm, ht⟩
  | y :: l, m, hn, hd, ht => by
    rw [List.nodup_cons] at hn
    have h1 := put_keys (hd y (List.mem_cons_self ..))
    have hk : keysP (inP m y).1 = keysP m.1 ++ [y] := by rw [h1, keysP, List.map_append]; rfl
    have h2 := puts_keys l (inP m y) hn.2 (fun x hx => by
      rw [hk, List.mem_append, List.mem_singleton]
      intro h
      rcases h with h | h
      · exact hd x (List.mem_cons_of_mem _ hx) h
      · exact hn.1 (h ▸ hx)) (fun x hx => by
      rw [h1, List.mem_append, List.mem_singleton] at hx
      rcases hx with h | h
      · exact ht x h
      · rw [h])
    rw [List.foldl_cons, hk, List.append_assoc] at *
    exact h2
/-- the program's word -/
noncomputable def permP (pts p : List (El t82)) : Bool := outP p (pts.foldl inP ([], Int.ofNat 0))
theorem permP_iff {pts p : List (El t82)} (h : pts.Nodup) : permP pts p = true ↔ p.Perm pts := by
  obtain ⟨h1, h2⟩ := puts_keys pts ([], Int.ofNat 0) h (fun _ _ h => by cases h) (fun _ h => by cases h)
  unfold permP
  rw [outP_iff p _ h2, h1]
  exact Iff.rfl

abbrev X42 : Type := (Unit × List (El t82) × Int × Int × Unit) × Unit × MP × Unit
abbrev R42 : Type := (Unit × Unit) × Unit × MP × Unit ⊕ Bool × Unit
noncomputable def body42 (n : Nat) (x : X42) : Option (X42 ⊕ R42) := r42_l9 n (Prod.fst (Prod.snd (Prod.fst x))) (Prod.fst (Prod.snd (Prod.snd (Prod.fst x)))) (Prod.fst (Prod.snd (Prod.snd (Prod.snd (Prod.fst x))))) (Prod.fst (Prod.snd (Prod.snd x)))
noncomputable def at42 (p : List (El t82)) (k : Nat) (m : MP) : X42 := ((PUnit.unit, p, Int.ofNat p.length, Int.ofNat k, PUnit.unit), PUnit.unit, m, PUnit.unit)
theorem loop42 (n : Nat) (p : List (El t82)) (hp : p.length ≤ 1000000) : ∀ (r : List (El t82)) (k f : Nat) (m : MP), p.drop k = r → k + r.length = p.length → r.length < f →
    andThen (iterF (body42 n) f (at42 p k m)) (sumK fun (x : (Unit × Unit) × Unit × MP × Unit) => r42_j15 n (Prod.fst (Prod.snd (Prod.snd x)))) = some (outP r m, PUnit.unit) := by
  intro r
  induction r with
  | nil =>
    intro k f m _ hk hf
    have hk : k = p.length := by simpa using hk
    subst hk
    cases f with
    | zero => simp at hf
    | succ f =>
      refine (andThen_of (iterF_inr (r := (.inl ((PUnit.unit, PUnit.unit), PUnit.unit, m, PUnit.unit) : R42)) ?_)).trans rfl
      show r42_l9 n p (Int.ofNat p.length) (Int.ofNat p.length) m = _
      exact iff_nt (le_true (Nat.le_refl _))
  | cons y r ih =>
    intro k f m hd hk hf
    have hy : p[k]? = some y := by
      have : (p.drop k)[0]? = some y := by rw [hd]; rfl
      rwa [List.getElem?_drop, Nat.add_zero] at this
    have hlt := (List.getElem?_eq_some_iff.1 hy).1
    have h1 : body42 n (at42 p k m) = some (iff (!gP y m.1) (.inr (.inr (false, PUnit.unit))) (.inl (at42 p (k + 1) (offP m y)))) := by
      show r42_l9 n p (Int.ofNat p.length) (Int.ofNat k) m = _
      unfold r42_l9
      refine (iff_nf (le_false hlt)).trans ((andThen_of (inRange_nat hlt)).trans ((andThen_of (nthQ_some hy)).trans ?_))
      show iff (!gP y m.1) _ _ = _
      cases gP y m.1 with
      | true =>
        show some _ = some _
        rw [wrap_succ (by omega)]
        rfl
      | false => rfl
    cases f with
    | zero => simp at hf
    | succ f =>
      show _ = some (iff (gP y m.1) (outP r (offP m y)) false, PUnit.unit)
      cases hc : gP y m.1 with
      | true =>
        rw [hc] at h1
        rw [iterF_inl (show body42 n (at42 p k m) = some (.inl (at42 p (k + 1) (offP m y))) from h1)]
        exact ih (k + 1) f _ (by rw [← List.drop_drop, hd]; rfl) (by simp at hk; omega) (by simp at hf; omega)
      | false =>
        rw [hc] at h1
        rw [iterF_inr (show body42 n (at42 p k m) = some (.inr (.inr (false, PUnit.unit))) from h1)]
        rfl
theorem r42_perm (n : Nat) (hn : 100000 ≤ n) (l : List (El t80)) (p : List (El t82)) (hp : p.length < n) (hp2 : p.length ≤ 1000000) (hq : (points l).1.length < n) (hq2 : (points l).1.length ≤ 1000000) :
    r42 n (l, p, PUnit.unit) = some (permP (points l).1 p, PUnit.unit) := by
  show r42c n l p = _
  unfold r42c
  refine (andThen_of (r12_points n hn l)).trans ?_
  obtain ⟨h1, _⟩ := iterF_list (X := (List (El t82) × Unit × List (El t82) × Int × Int × Unit) × Unit × MP × Unit) (R := (List (El t82) × Unit × Unit) × Unit × MP × Unit ⊕ Bool × Unit)
    (body := fun x => r42_l4 n (Prod.fst (Prod.fst x)) (Prod.fst (Prod.snd (Prod.snd (Prod.fst x)))) (Prod.fst (Prod.snd (Prod.snd (Prod.snd (Prod.fst x))))) (Prod.fst (Prod.snd (Prod.snd (Prod.snd (Prod.snd (Prod.fst x)))))) (Prod.fst (Prod.snd (Prod.snd x))))
    (points l).1 (fun k m => ((p, PUnit.unit, (points l).1, Int.ofNat (points l).1.length, Int.ofNat k, PUnit.unit), PUnit.unit, m, PUnit.unit)) inP
    (fun m => .inl ((p, PUnit.unit, PUnit.unit), PUnit.unit, m, PUnit.unit)) (fun _ _ => True)
    (fun k y s hk _ => ⟨by
      have hlt := (List.getElem?_eq_some_iff.1 hk).1
      show r42_l4 n p (points l).1 (Int.ofNat (points l).1.length) (Int.ofNat k) s = _
      unfold r42_l4
      refine (iff_nf (le_false hlt)).trans ((andThen_of (inRange_nat hlt)).trans ((andThen_of (nthQ_some hk)).trans ?_))
      show some _ = some _
      rw [wrap_succ (by omega)]
      rfl, trivial⟩)
    (fun s _ => by
      show r42_l4 n p (points l).1 (Int.ofNat (points l).1.length) (Int.ofNat (points l).1.length) s = _
      exact iff_nt (le_true (Nat.le_refl _))) n ([], Int.ofNat 0) trivial hq
  refine (andThen_of h1).trans ?_
  exact loop42 n p hp2 p 0 n _ rfl (Nat.zero_add _) hp
end L
end Go.Proofs.Ytlhagmgfffigfaa
