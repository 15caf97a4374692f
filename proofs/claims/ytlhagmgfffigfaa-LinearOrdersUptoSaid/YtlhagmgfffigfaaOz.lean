/- HistoryReads, plainly: Before, by the program. Conditions: at most 120 events are looked at. -/
import Derived.Test.YtlhagmgfffigfaaHf
import Derived.Test.YtlhagmgfffigfaaL18
import Derived.Test.YtlhagmgfffigfaaL36
set_option maxRecDepth 100000
namespace Go.Proofs.Ytlhagmgfffigfaa
open Go Go.Abs
namespace L
theorem inR_int {y : Int} {n : Nat} (h0 : 0 ≤ y) (h : y.toNat < n) : inRange y n = some y.toNat := by
  obtain ⟨m, rfl⟩ := Int.eq_ofNat_of_zero_le h0
  exact inRange_nat h
/-! ### Before -/
/-- are both numbers of events? -/
def both (l : List (El t80)) (i k : Int) : Prop := 0 ≤ i ∧ i < l.length ∧ 0 ≤ k ∧ k < l.length
noncomputable def over (a b : El t80) : Bool := and (leQ (Int.ofNat 0) (dn a)) (!leQ (bg b) (dn a))
theorem r36_eq (n : Nat) (a b : El t80) : r36 n (a, b, PUnit.unit) = some (over a b, PUnit.unit) := by
  show r36c n a b = _
  unfold r36c over
  show iff (leQ (Int.ofNat 0) (dn a)) _ _ = _
  cases leQ (Int.ofNat 0) (dn a) <;> rfl
open Classical in
/-- what both say -/
noncomputable def before (l : List (El t80)) (i k : Int) : Bool × Int × Unit :=
  if code l = 0 then (if both l i k then (@Option.rec (El t80) (fun _ => Bool) false (fun a => @Option.rec (El t80) (fun _ => Bool) false (fun b => over a b) l[k.toNat]?) l[i.toNat]?, Int.ofNat 0, PUnit.unit) else (false, Int.ofNat 2, PUnit.unit)) else (false, code l, PUnit.unit)
theorem len_le (n : Nat) (x : Int) : leQ (Int.ofNat n) x = decide ((n : Int) ≤ x) := leQ_dec _ _
theorem r18_before (n : Nat) (hn : 2000 ≤ n) (l : List (El t80)) (i k : Int) : r18 n (l, i, k, PUnit.unit) = some (before l i k) := by
  show r18c n l i k = _
  unfold r18c before
  refine (andThen_of (r20_eq n (by omega) l)).trans ?_
  show iff (!eqQ (code l) (Int.ofNat 0)) _ _ = _
  by_cases hc : code l = 0
  · rw [if_pos hc, eq0, decide_eq_true hc]
    refine (iff_f rfl).trans ?_
    have hmin : iff (leQ i k) i k = min i k := by
      rw [leQ_dec, iff_eq]
      by_cases h : i ≤ k
      · rw [if_pos (decide_eq_true h)]; omega
      · rw [if_neg (by rw [decide_eq_false h]; decide)]; omega
    have hmax : iff (leQ k i) i k = max i k := by
      rw [leQ_dec, iff_eq]
      by_cases h : k ≤ i
      · rw [if_pos (decide_eq_true h)]; omega
      · rw [if_neg (by rw [decide_eq_false h]; decide)]; omega
    rw [hmin, hmax]
    have hb : ∀ c : Bool, or (!leQ (Int.ofNat 0) (min i k)) (leQ (Int.ofNat l.length) (max i k)) = c → (iff (!leQ (Int.ofNat 0) (min i k)) (some (Sum.inl (α := (List (El t80) × Int × Int × Bool × Unit) × Unit × Unit) (β := Bool × Int × Unit) ((l, i, k, true, PUnit.unit), PUnit.unit, PUnit.unit)))
        (some (Sum.inl ((l, i, k, leQ (Int.ofNat l.length) (max i k), PUnit.unit), PUnit.unit, PUnit.unit)))) = some (Sum.inl ((l, i, k, c, PUnit.unit), PUnit.unit, PUnit.unit)) := fun c hc => by
      subst hc
      cases leQ (Int.ofNat 0) (min i k) <;> rfl
    refine (andThen_of (hb _ rfl)).trans ?_
    show r18_j5 n l i k (or (!leQ (Int.ofNat 0) (min i k)) (leQ (Int.ofNat l.length) (max i k))) = _
    unfold r18_j5
    by_cases hbo : both l i k
    · obtain ⟨h1, h2, h3, h4⟩ := hbo
      rw [if_pos ⟨h1, h2, h3, h4⟩]
      have hi : i.toNat < l.length := by omega
      have hk : k.toNat < l.length := by omega
      have gi := List.getElem?_eq_getElem hi
      have gk := List.getElem?_eq_getElem hk
      have hf : or (!leQ (Int.ofNat 0) (min i k)) (leQ (Int.ofNat l.length) (max i k)) = false := by
        rw [(le0 _).2 (by omega), len_le, decide_eq_false (by omega)]; rfl
      rw [gi, gk]
      refine (iff_f hf).trans ((andThen_of (inR_int h1 hi)).trans ((andThen_of (nthQ_some gi)).trans ?_))
      show iff (leQ (Int.ofNat 0) (dn l[i.toNat])) _ _ = some (over l[i.toNat] l[k.toNat], Int.ofNat 0, PUnit.unit)
      unfold over
      cases leQ (Int.ofNat 0) (dn l[i.toNat]) with
      | false => rfl
      | true => exact (iff_t rfl).trans ((andThen_of (inR_int h1 hi)).trans ((andThen_of (nthQ_some gi)).trans ((andThen_of (inR_int h3 hk)).trans ((andThen_of (nthQ_some gk)).trans rfl))))
    · rw [if_neg hbo]
      have hf : or (!leQ (Int.ofNat 0) (min i k)) (leQ (Int.ofNat l.length) (max i k)) = true := by
        have h0 := le0 (min i k)
        cases hx : leQ (Int.ofNat 0) (min i k) with
        | false => rfl
        | true =>
          rw [hx] at h0
          have := h0.1 rfl
          have h5 : (l.length : Int) ≤ max i k := Classical.byContradiction fun h => hbo ⟨by omega, by omega, by omega, by omega⟩
          rw [len_le, decide_eq_true h5]; rfl
      exact (iff_t hf).trans rfl
  · rw [if_neg hc, eq0, decide_eq_false hc]
    rfl
end L
end Go.Proofs.Ytlhagmgfffigfaa
