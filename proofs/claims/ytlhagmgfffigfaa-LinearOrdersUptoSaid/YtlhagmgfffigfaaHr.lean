/- HistoryReads, plainly, first parts: what is the same is told so. Conditions: no list is longer than 1048576. -/
import Derived.Test.YtlhagmgfffigfaaSb
import Derived.Test.YtlhagmgfffigfaaTy
import Derived.Test.YtlhagmgfffigfaaL39
import Derived.Test.YtlhagmgfffigfaaL10
set_option maxRecDepth 100000
namespace Go.Proofs.Ytlhagmgfffigfaa
open Go Go.Abs
namespace L
/-! ### tickets -/
/-- has an event this ticket? -/
noncomputable def hasT (t : Int) (e : El t80) : Bool := and (leQ (Int.ofNat 0) e.2.2.2.2.2.1) (eqQ e.2.2.2.2.2.1 t)
/-- the place of the event with a ticket, or -1 -/
noncomputable def ticketed (l : List (El t80)) (t : Int) : Int := seek (hasT t) Int.ofNat (Int.negSucc 0) l 0
theorem seek_map {α R S : Type} (p : α → Bool) (hit : Nat → R) (fin : R) (g : R → S) : ∀ (l : List α) (k : Nat), g (seek p hit fin l k) = seek p (fun i => g (hit i)) (g fin) l k
  | [], _ => rfl
  | a :: r, k => by
    unfold seek
    split
    · rfl
    · exact seek_map p hit fin g r (k + 1)
theorem r39_eq (n : Nat) (l : List (El t80)) (t : Int) (h : l.length ≤ 1048576) (hn : l.length < n) : r39 n (l, t, PUnit.unit) = some (ticketed l t, PUnit.unit) := by
  show r39c n l t = _
  unfold r39c
  have h1 := iterF_seek (X := (List (El t80) × Int × Int × Unit) × Unit × Unit) (R := Unit × Unit × Unit ⊕ Int × Unit) (body := fun x => r39_l2 n (Prod.fst (Prod.fst x)) (Prod.fst (Prod.snd (Prod.fst x))) (Prod.fst (Prod.snd (Prod.snd (Prod.fst x))))) l
    (fun k => ((l, t, Int.ofNat k, PUnit.unit), PUnit.unit, PUnit.unit)) (hasT t) (fun i => .inr (Int.ofNat i, PUnit.unit)) (.inl (PUnit.unit, PUnit.unit, PUnit.unit))
    (fun k y hk => by
      have hlt := (List.getElem?_eq_some_iff.1 hk).1
      show r39_l2 n l t (Int.ofNat k) = _
      unfold r39_l2
      refine (iff_nf (le_false hlt)).trans ?_
      have inner : ∀ b, hasT t y = b → (andThen (inRange (Int.ofNat k) (List.length l)) fun (j5 : Nat) => andThen (nthQ j5 l) fun (y6 : El t80) =>
          iff (leQ (Int.ofNat 0) y6.2.2.2.2.2.1) (andThen (inRange (Int.ofNat k) (List.length l)) fun (j7 : Nat) => andThen (nthQ j7 l) fun (y8 : El t80) =>
            Option.some (Sum.inl (α := (List (El t80) × Int × Int × Bool × Unit) × Unit × Unit) (β := (List (El t80) × Int × Int × Unit) × Unit × Unit ⊕ Unit × Unit × Unit ⊕ Int × Unit) ((l, t, Int.ofNat k, eqQ y8.2.2.2.2.2.1 t, PUnit.unit), PUnit.unit, PUnit.unit)))
          (Option.some (Sum.inl ((l, t, Int.ofNat k, Bool.false, PUnit.unit), PUnit.unit, PUnit.unit)))) = some (Sum.inl ((l, t, Int.ofNat k, b, PUnit.unit), PUnit.unit, PUnit.unit)) := fun b hb => by
        refine (andThen_of (inRange_nat hlt)).trans ((andThen_of (nthQ_some hk)).trans ?_)
        cases hc : leQ (Int.ofNat 0) y.2.2.2.2.2.1 with
        | true =>
          refine (iff_t rfl).trans ((andThen_of (inRange_nat hlt)).trans ((andThen_of (nthQ_some hk)).trans ?_))
          have : eqQ y.2.2.2.2.2.1 t = b := by rw [← hb]; show _ = and (leQ (Int.ofNat 0) y.2.2.2.2.2.1) _; rw [hc]; rfl
          rw [this]
        | false =>
          refine (iff_f rfl).trans ?_
          have : false = b := by rw [← hb]; show _ = and (leQ (Int.ofNat 0) y.2.2.2.2.2.1) _; rw [hc]; rfl
          rw [this]
      refine (andThen_of (inner _ rfl)).trans ?_
      show r39_j5 n l t (Int.ofNat k) (hasT t y) = _
      unfold r39_j5
      cases hasT t y with
      | true => rfl
      | false => rw [wrap_succ (by omega)]; rfl)
    (by
      show r39_l2 n l t (Int.ofNat l.length) = _
      exact iff_nt (le_true (Nat.le_refl _))) n hn
  refine (andThen_of h1).trans ?_
  rw [seek_map (hasT t) _ _ (sumK (R := Int × Unit) fun (x : Unit × Unit × Unit) => r39_j6 n) l 0]
  unfold ticketed
  rw [seek_map (hasT t) Int.ofNat (Int.negSucc 0) (fun i => some (i, PUnit.unit)) l 0]
  rfl
/-! ### great events -/
noncomputable def bigE (e : El t80) : Bool := or (!leQ (Int.ofNat (List.length e.2.2.2.1)) (Int.ofNat 2500)) (or (!leQ (Int.ofNat (List.length e.2.2.1.2.1)) (Int.ofNat 2500)) (!leQ (Int.ofNat (List.length e.2.2.2.2.2.2.2.2.2.2.2.1.2.2.2.2.2.1)) (Int.ofNat 60)))
noncomputable def longL (k : Nat) : Bool := or (and (!leQ (Int.ofNat k) (Int.ofNat 60)) (leQ (Int.ofNat k) (Int.ofNat 120))) (!leQ (Int.ofNat k) (Int.ofNat 130))
noncomputable def greatL (l : List (El t80)) : Bool := seek bigE (fun _ => true) (longL l.length) l 0
theorem r10_eq (n : Nat) (l : List (El t80)) (h : l.length ≤ 1048576) (hn : l.length < n) : r10 n (l, PUnit.unit) = some (greatL l, PUnit.unit) := by
  show r10c n l = _
  unfold r10c
  have h1 := iterF_seek (X := (List (El t80) × Int × Unit) × Unit × Unit) (R := (List (El t80) × Unit) × Unit × Unit ⊕ Bool × Unit) (body := fun x => r10_l2 n (Prod.fst (Prod.fst x)) (Prod.fst (Prod.snd (Prod.fst x)))) l
    (fun k => ((l, Int.ofNat k, PUnit.unit), PUnit.unit, PUnit.unit)) bigE (fun _ => .inr (true, PUnit.unit)) (.inl ((l, PUnit.unit), PUnit.unit, PUnit.unit))
    (fun k y hk => by
      have hlt := (List.getElem?_eq_some_iff.1 hk).1
      show r10_l2 n l (Int.ofNat k) = _
      unfold r10_l2
      refine (iff_nf (le_false hlt)).trans ?_
      refine (andThen_of (a := Sum.inl ((l, Int.ofNat k, bigE y, PUnit.unit), PUnit.unit, PUnit.unit)) ?_).trans ?_
      · refine (andThen_of (inRange_nat hlt)).trans ((andThen_of (nthQ_some hk)).trans ?_)
        cases hc : (!leQ (Int.ofNat (List.length y.2.2.2.1)) (Int.ofNat 2500)) with
        | true =>
          refine (iff_t rfl).trans ?_
          have : bigE y = true := by show or (!leQ (Int.ofNat (List.length y.2.2.2.1)) (Int.ofNat 2500)) _ = true; rw [hc]; rfl
          rw [this]
        | false =>
          refine (iff_f rfl).trans ((andThen_of (inRange_nat hlt)).trans ((andThen_of (nthQ_some hk)).trans ?_))
          cases hd : (!leQ (Int.ofNat (List.length y.2.2.1.2.1)) (Int.ofNat 2500)) with
          | true =>
            refine (iff_t rfl).trans ?_
            have : bigE y = true := by show or (!leQ (Int.ofNat (List.length y.2.2.2.1)) (Int.ofNat 2500)) (or (!leQ (Int.ofNat (List.length y.2.2.1.2.1)) (Int.ofNat 2500)) _) = true; rw [hc, hd]; rfl
            rw [this]
          | false =>
            refine (iff_f rfl).trans ((andThen_of (inRange_nat hlt)).trans ((andThen_of (nthQ_some hk)).trans ?_))
            have : bigE y = !leQ (Int.ofNat (List.length y.2.2.2.2.2.2.2.2.2.2.2.1.2.2.2.2.2.1)) (Int.ofNat 60) := by show or (!leQ (Int.ofNat (List.length y.2.2.2.1)) (Int.ofNat 2500)) (or (!leQ (Int.ofNat (List.length y.2.2.1.2.1)) (Int.ofNat 2500)) _) = _; rw [hc, hd]; rfl
            rw [this]
      show r10_j5 n l (Int.ofNat k) (bigE y) = _
      unfold r10_j5
      cases bigE y with
      | true => rfl
      | false => rw [wrap_succ (by omega)]; rfl)
    (by
      show r10_l2 n l (Int.ofNat l.length) = _
      exact iff_nt (le_true (Nat.le_refl _))) n hn
  refine (andThen_of h1).trans ?_
  rw [seek_map bigE _ _ (sumK (R := Bool × Unit) fun (x : (List (El t80) × Unit) × Unit × Unit) => r10_j6 n (Prod.fst (Prod.fst x))) l 0]
  unfold greatL
  rw [seek_map bigE (fun _ => true) (longL l.length) (fun i => some (i, PUnit.unit)) l 0]
  have : sumK (R := Bool × Unit) (fun (x : (List (El t80) × Unit) × Unit × Unit) => r10_j6 n (Prod.fst (Prod.fst x))) (.inl ((l, PUnit.unit), PUnit.unit, PUnit.unit)) = some (longL l.length, PUnit.unit) := by
    show r10_j6 n l = _
    unfold r10_j6 longL
    cases leQ (Int.ofNat (List.length l)) (Int.ofNat 60) <;> cases leQ (Int.ofNat (List.length l)) (Int.ofNat 120) <;> rfl
  rw [this]
  rfl
end L
end Go.Proofs.Ytlhagmgfffigfaa
