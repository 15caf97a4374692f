/- LinearOrders, plainly, third part: the pairs of an order that are the wrong way round, by the program and by the reference. Conditions: lists are short. -/
import Derived.Test.YtlhagmgfffigfaaOb
import Derived.Test.YtlhagmgfffigfaaL26
import Derived.Test.YtlhagmgfffigfaaL27
set_option maxRecDepth 100000
namespace Go.Proofs.Ytlhagmgfffigfaa
open Go Go.Abs
namespace L
theorem before_val {l : List (El t80)} {i j : Nat} {e f : El t80} (hc : code l = 0) (hi : l[i]? = some e) (hj : l[j]? = some f) : (before l (Int.ofNat i) (Int.ofNat j)).1 = over e f := by
  have h1 := (List.getElem?_eq_some_iff.1 hi).1
  have h2 := (List.getElem?_eq_some_iff.1 hj).1
  unfold before
  rw [if_pos hc, if_pos (show both l (Int.ofNat i) (Int.ofNat j) from ⟨Int.natCast_nonneg i, Int.ofNat_lt.2 h1, Int.natCast_nonneg j, Int.ofNat_lt.2 h2⟩)]
  show @Option.rec (El t80) (fun _ => Bool) false (fun a => @Option.rec (El t80) (fun _ => Bool) false (fun b => over a b) l[j]?) l[i]? = _
  rw [hi, hj]
/-- of two points of an order, the first stands wrongly before the second -/
noncomputable def badP (l : List (El t80)) (a b : El t82) : Bool := or (before l b.2.1 a.2.1).1 (and (eqQ a.2.1 b.2.1) (eqQ a.2.2.1 (Int.ofNat 2)))
abbrev X26 : Type := (List (El t80) × List (El t82) × Unit × List (El t82) × Int × Int × List (El t82) × Int × Int × Unit) × Unit × El t82 × Unit
abbrev Y26 : Type := (List (El t80) × List (El t82) × List (El t82) × Int × Int × Unit) × Unit × Unit
abbrev R26 : Type := Unit × Unit × Unit ⊕ Bool × Int × Unit
theorem r26_in (n : Nat) (hn : 2000 ≤ n) (l : List (El t80)) (p c : List (El t82)) (i : Int) (a : El t82) (hc : c.length ≤ 1000000) (hf : c.length < n) :
    iterF (R := Y26 ⊕ Y26 ⊕ R26) (fun (x : X26) =>
        r26_l10 n (Prod.fst (Prod.fst x)) (Prod.fst (Prod.snd (Prod.fst x))) (Prod.fst (Prod.snd (Prod.snd (Prod.snd (Prod.fst x)))))
          (Prod.fst (Prod.snd (Prod.snd (Prod.snd (Prod.snd (Prod.fst x))))))
          (Prod.fst (Prod.snd (Prod.snd (Prod.snd (Prod.snd (Prod.snd (Prod.fst x)))))))
          (Prod.fst (Prod.snd (Prod.snd (Prod.snd (Prod.snd (Prod.snd (Prod.snd (Prod.fst x))))))))
          (Prod.fst (Prod.snd (Prod.snd (Prod.snd (Prod.snd (Prod.snd (Prod.snd (Prod.snd (Prod.fst x)))))))))
          (Prod.fst (Prod.snd (Prod.snd (Prod.snd (Prod.snd (Prod.snd (Prod.snd (Prod.snd (Prod.snd (Prod.fst x))))))))))
          (Prod.fst (Prod.snd (Prod.snd x)))) n ((l, p, PUnit.unit, p, Int.ofNat p.length, i, c, Int.ofNat c.length, Int.ofNat 0, PUnit.unit), PUnit.unit, a, PUnit.unit) =
      some (iff (c.any (badP l a)) (.inr (.inr (.inr (false, Int.ofNat 0, PUnit.unit)))) (.inl ((l, p, p, Int.ofNat p.length, i, PUnit.unit), PUnit.unit, PUnit.unit))) := by
  rw [← seek_const (badP l a) _ _ c 0]
  refine iterF_seek (X := X26) (R := Y26 ⊕ Y26 ⊕ R26) c (fun k => ((l, p, PUnit.unit, p, Int.ofNat p.length, i, c, Int.ofNat c.length, Int.ofNat k, PUnit.unit), PUnit.unit, a, PUnit.unit)) (badP l a) _ _ (fun k b hk => ?_) ?_ n hf
  · have hlt := (List.getElem?_eq_some_iff.1 hk).1
    show r26_l10 n l p p (Int.ofNat p.length) i c (Int.ofNat c.length) (Int.ofNat k) a = _
    unfold r26_l10
    refine (iff_nf (le_false hlt)).trans ((andThen_of (inRange_nat hlt)).trans ((andThen_of (nthQ_some hk)).trans ((andThen_of (r18_before n hn l b.2.1 a.2.1)).trans ?_)))
    refine (andThen_of (a := Sum.inl ((l, p, PUnit.unit, p, Int.ofNat p.length, i, c, Int.ofNat c.length, Int.ofNat k, badP l a b, PUnit.unit), PUnit.unit, a, PUnit.unit)) ?_).trans ?_
    · unfold badP
      cases (before l b.2.1 a.2.1).1 with
      | true => rfl
      | false => cases eqQ a.2.1 b.2.1 <;> rfl
    · show r26_j14 n l p p (Int.ofNat p.length) i c (Int.ofNat c.length) (Int.ofNat k) (badP l a b) a = _
      unfold r26_j14
      cases badP l a b with
      | true => rfl
      | false => rw [wrap_succ (by omega)]; rfl
  · show r26_l10 n l p p (Int.ofNat p.length) i c (Int.ofNat c.length) (Int.ofNat c.length) a = _
    exact iff_nt (le_true (Nat.le_refl _))
noncomputable def after (l : List (El t80)) (p : List (El t82)) (x : El t82 × Nat) : Bool := (p.drop (x.2 + 1)).any (badP l x.1)
noncomputable def prior (l : List (El t80)) (p : List (El t82)) (x : El t82 × Nat) : Bool := (p.take x.2).any fun a => badP l a x.1
theorem upTo_at {k n : Nat} (h : k ≤ n) : upTo (Int.ofNat k) n = some k := by
  unfold upTo
  simp [iff_eq, h]
theorem cut_drop {α : Type} (k : Nat) (p : List α) : cutL k p.length p = p.drop k := by
  unfold cutL
  rw [show Nat.sub p.length k = (p.drop k).length by rw [List.length_drop]; rfl, List.take_length]
theorem zip_at {α : Type} {p : List α} {k : Nat} {x : α × Nat} (h : p.zipIdx[k]? = some x) : x.2 = k ∧ p[k]? = some x.1 := by
  rw [List.getElem?_zipIdx] at h
  cases hp : p[k]? with
  | none => rw [hp] at h; cases h
  | some y =>
    rw [hp] at h
    obtain rfl := Option.some.inj h
    exact ⟨Nat.zero_add _, rfl⟩
theorem r26_loop (n : Nat) (hn : 2000 ≤ n) (l : List (El t80)) (p : List (El t82)) (hp : p.length ≤ 1000000) (hf : p.length < n) :
    iterF (R := R26) (fun (x : Y26) =>
        r26_l7 n (Prod.fst (Prod.fst x)) (Prod.fst (Prod.snd (Prod.fst x))) (Prod.fst (Prod.snd (Prod.snd (Prod.fst x))))
          (Prod.fst (Prod.snd (Prod.snd (Prod.snd (Prod.fst x))))) (Prod.fst (Prod.snd (Prod.snd (Prod.snd (Prod.snd (Prod.fst x))))))) n ((l, p, p, Int.ofNat p.length, Int.ofNat 0, PUnit.unit), PUnit.unit, PUnit.unit) =
      some (iff (p.zipIdx.any (after l p)) (.inr (false, Int.ofNat 0, PUnit.unit)) (.inl (PUnit.unit, PUnit.unit, PUnit.unit))) := by
  rw [← seek_const (after l p) _ _ p.zipIdx 0]
  refine iterF_seek (X := Y26) (R := R26) p.zipIdx (fun k => ((l, p, p, Int.ofNat p.length, Int.ofNat k, PUnit.unit), PUnit.unit, PUnit.unit)) (after l p) _ _ (fun k x hk => ?_) ?_ n (by rw [List.length_zipIdx]; exact hf)
  · obtain ⟨h1, h2⟩ := zip_at hk
    have hlt := (List.getElem?_eq_some_iff.1 h2).1
    show r26_l7 n l p p (Int.ofNat p.length) (Int.ofNat k) = _
    unfold r26_l7
    refine (iff_nf (le_false hlt)).trans ?_
    have hin : iterF (R := Y26 ⊕ Y26 ⊕ R26) _ n _ = _ := r26_in n hn l p (p.drop (k + 1)) (Int.ofNat k) x.1 (by rw [List.length_drop]; omega) (by rw [List.length_drop]; omega)
    refine (andThen_of (a := iff (after l p x) (.inr (.inr (.inr (false, Int.ofNat 0, PUnit.unit)))) (.inl ((l, p, p, Int.ofNat p.length, Int.ofNat k, PUnit.unit), PUnit.unit, PUnit.unit))) ?_).trans ?_
    · refine (andThen_of (inRange_nat hlt)).trans ((andThen_of (nthQ_some h2)).trans ((andThen_of (show upTo (wrapQ Go.IntKind.i64 (Int.add (Int.ofNat k) (Int.ofNat 1))) (List.length p) = some (k + 1) by rw [wrap_succ (by omega)]; exact upTo_at hlt)).trans ?_))
      rw [cut_drop]
      unfold after
      rw [h1]
      exact hin
    · cases after l p x with
      | true => rfl
      | false =>
        show r26_j16 n l p p (Int.ofNat p.length) (Int.ofNat k) = _
        unfold r26_j16
        rw [wrap_succ (by omega)]
        rfl
  · show r26_l7 n l p p (Int.ofNat p.length) (Int.ofNat p.zipIdx.length) = _
    rw [List.length_zipIdx]
    exact iff_nt (le_true (Nat.le_refl _))
/-! ### by the reference -/
abbrev X27 : Type := (List (El t80) × List (El t82) × Int × Int × Unit) × Unit × Unit
abbrev Y27 : Type := (List (El t80) × List (El t82) × Int × Unit) × Unit × Unit
/-- every point is of an event -/
def Valid (l : List (El t80)) (p : List (El t82)) : Prop := ∀ x ∈ p, ∃ (i : Nat) (e : El t80), x.2.1 = Int.ofNat i ∧ l[i]? = some e
theorem r27_at (n : Nat) (l : List (El t80)) (hc : code l = 0) (p : List (El t82)) (hv : Valid l p) (i k : Nat) (a b : El t82) (hk : p[k]? = some a) (hi : p[i]? = some b) :
    r27_j13 n l p (Int.ofNat i) (Int.ofNat k) (and (eqQ a.2.1 b.2.1) (eqQ a.2.2.1 (Int.ofNat 2))) = r27_j15 n l p (Int.ofNat i) (Int.ofNat k) (badP l a b) := by
  have hkl := (List.getElem?_eq_some_iff.1 hk).1
  have hil := (List.getElem?_eq_some_iff.1 hi).1
  obtain ⟨u, e, h1, h2⟩ := hv b (List.mem_of_getElem? hi)
  obtain ⟨w, f, h3, h4⟩ := hv a (List.mem_of_getElem? hk)
  have hul := (List.getElem?_eq_some_iff.1 h2).1
  have hwl := (List.getElem?_eq_some_iff.1 h4).1
  have hb : badP l a b = or (over e f) (and (eqQ a.2.1 b.2.1) (eqQ a.2.2.1 (Int.ofNat 2))) := by
    unfold badP
    rw [h1, h3, before_val hc h2 h4]
  unfold r27_j13
  refine (andThen_of (inRange_nat hil)).trans ((andThen_of (nthQ_some hi)).trans ((andThen_of (a := u) (by rw [h1]; exact inRange_nat hul)).trans ((andThen_of (nthQ_some h2)).trans
    ((andThen_of (inRange_nat hkl)).trans ((andThen_of (nthQ_some hk)).trans ((andThen_of (a := w) (by rw [h3]; exact inRange_nat hwl)).trans ((andThen_of (nthQ_some h4)).trans ((andThen_of (r36_eq n e f)).trans ?_))))))))
  rw [hb]
  refine (andThen_of (a := Sum.inl ((l, p, Int.ofNat i, Int.ofNat k, or (over e f) (and (eqQ a.2.1 b.2.1) (eqQ a.2.2.1 (Int.ofNat 2))), PUnit.unit), PUnit.unit, PUnit.unit)) ?_).trans rfl
  cases and (eqQ a.2.1 b.2.1) (eqQ a.2.2.1 (Int.ofNat 2)) <;> cases over e f <;> rfl
theorem r27_in (n : Nat) (l : List (El t80)) (hc : code l = 0) (p : List (El t82)) (hv : Valid l p) (hp : p.length ≤ 1000000) (hf : p.length < n) (i : Nat) (b : El t82) (hi : p[i]? = some b) :
    iterF (R := Y27 ⊕ Y27 ⊕ R26) (fun (x : X27) =>
        r27_l10 n (Prod.fst (Prod.fst x)) (Prod.fst (Prod.snd (Prod.fst x))) (Prod.fst (Prod.snd (Prod.snd (Prod.fst x))))
          (Prod.fst (Prod.snd (Prod.snd (Prod.snd (Prod.fst x)))))) n ((l, p, Int.ofNat i, Int.ofNat 0, PUnit.unit), PUnit.unit, PUnit.unit) =
      some (iff (prior l p (b, i)) (.inr (.inr (.inr (false, Int.ofNat 0, PUnit.unit)))) (.inl ((l, p, Int.ofNat i, PUnit.unit), PUnit.unit, PUnit.unit))) := by
  have hil := (List.getElem?_eq_some_iff.1 hi).1
  have hlen : (p.take i).length = i := by rw [List.length_take]; omega
  unfold prior
  rw [← seek_const (fun a => badP l a b) _ _ (p.take i) 0]
  refine iterF_seek (X := X27) (R := Y27 ⊕ Y27 ⊕ R26) (p.take i) (fun k => ((l, p, Int.ofNat i, Int.ofNat k, PUnit.unit), PUnit.unit, PUnit.unit)) (fun a => badP l a b) _ _ (fun k a hk => ?_) ?_ n (by omega)
  · have hki := (List.getElem?_eq_some_iff.1 hk).1
    rw [hlen] at hki
    have hk : p[k]? = some a := by rwa [List.getElem?_take, if_pos hki] at hk
    have hkl := (List.getElem?_eq_some_iff.1 hk).1
    show r27_l10 n l p (Int.ofNat i) (Int.ofNat k) = _
    unfold r27_l10
    refine (iff_nf (le_false hki)).trans ?_
    refine (andThen_of (a := Sum.inl ((l, p, Int.ofNat i, Int.ofNat k, and (eqQ a.2.1 b.2.1) (eqQ a.2.2.1 (Int.ofNat 2)), PUnit.unit), PUnit.unit, PUnit.unit)) ?_).trans ?_
    · refine (andThen_of (inRange_nat hkl)).trans ((andThen_of (nthQ_some hk)).trans ((andThen_of (inRange_nat hil)).trans ((andThen_of (nthQ_some hi)).trans ?_)))
      cases eqQ a.2.1 b.2.1 with
      | true => exact (iff_t rfl).trans ((andThen_of (inRange_nat hkl)).trans ((andThen_of (nthQ_some hk)).trans rfl))
      | false => rfl
    · show r27_j13 n l p (Int.ofNat i) (Int.ofNat k) _ = _
      rw [r27_at n l hc p hv i k a b hk hi]
      unfold r27_j15
      cases badP l a b with
      | true => rfl
      | false => rw [wrap_succ (by omega)]; rfl
  · show r27_l10 n l p (Int.ofNat i) (Int.ofNat (p.take i).length) = _
    rw [hlen]
    exact iff_nt (le_true (Nat.le_refl _))
theorem r27_loop (n : Nat) (l : List (El t80)) (hc : code l = 0) (p : List (El t82)) (hv : Valid l p) (hp : p.length ≤ 1000000) (hf : p.length < n) :
    iterF (R := R26) (fun (x : Y27) => r27_l7 n (Prod.fst (Prod.fst x)) (Prod.fst (Prod.snd (Prod.fst x))) (Prod.fst (Prod.snd (Prod.snd (Prod.fst x))))) n ((l, p, Int.ofNat 0, PUnit.unit), PUnit.unit, PUnit.unit) =
      some (iff (p.zipIdx.any (prior l p)) (.inr (false, Int.ofNat 0, PUnit.unit)) (.inl (PUnit.unit, PUnit.unit, PUnit.unit))) := by
  rw [← seek_const (prior l p) _ _ p.zipIdx 0]
  refine iterF_seek (X := Y27) (R := R26) p.zipIdx (fun k => ((l, p, Int.ofNat k, PUnit.unit), PUnit.unit, PUnit.unit)) (prior l p) _ _ (fun k x hk => ?_) ?_ n (by rw [List.length_zipIdx]; exact hf)
  · obtain ⟨h1, h2⟩ := zip_at hk
    have hlt := (List.getElem?_eq_some_iff.1 h2).1
    obtain ⟨b, k'⟩ := x
    obtain rfl : k' = k := h1
    show r27_l7 n l p (Int.ofNat k') = _
    unfold r27_l7
    refine (iff_nf (le_false hlt)).trans ((andThen_of (r27_in n l hc p hv hp hf k' b h2)).trans ?_)
    cases prior l p (b, k') with
    | true => rfl
    | false =>
      show r27_j8 n l p (Int.ofNat k') = _
      unfold r27_j8
      rw [wrap_succ (by omega)]
      rfl
  · show r27_l7 n l p (Int.ofNat p.zipIdx.length) = _
    rw [List.length_zipIdx]
    exact iff_nt (le_true (Nat.le_refl _))
/-! ### both find the same -/
theorem any_same (l : List (El t80)) (p : List (El t82)) : p.zipIdx.any (prior l p) = p.zipIdx.any (after l p) := by
  rw [Bool.eq_iff_iff, List.any_eq_true, List.any_eq_true]
  constructor
  · intro ⟨x, hx, h⟩
    have hx := List.mem_zipIdx_iff_getElem?.1 hx
    obtain ⟨a, ha, hb⟩ := List.any_eq_true.1 (show ((p.take x.2).any fun a => badP l a x.1) = true from h)
    obtain ⟨j, hj⟩ := List.mem_iff_getElem?.1 ha
    rw [List.getElem?_take] at hj
    by_cases hji : j < x.2
    · rw [if_pos hji] at hj
      refine ⟨(a, j), List.mem_zipIdx_iff_getElem?.2 hj, ?_⟩
      show (p.drop (j + 1)).any (badP l a) = true
      refine List.any_eq_true.2 ⟨x.1, List.mem_iff_getElem?.2 ⟨x.2 - (j + 1), ?_⟩, hb⟩
      rw [List.getElem?_drop, show j + 1 + (x.2 - (j + 1)) = x.2 by omega]
      exact hx
    · rw [if_neg hji] at hj; cases hj
  · intro ⟨x, hx, h⟩
    have hx := List.mem_zipIdx_iff_getElem?.1 hx
    obtain ⟨b, hb, hc⟩ := List.any_eq_true.1 (show (p.drop (x.2 + 1)).any (badP l x.1) = true from h)
    obtain ⟨j, hj⟩ := List.mem_iff_getElem?.1 hb
    rw [List.getElem?_drop] at hj
    refine ⟨(b, x.2 + 1 + j), List.mem_zipIdx_iff_getElem?.2 hj, ?_⟩
    show ((p.take (x.2 + 1 + j)).any fun a => badP l a b) = true
    refine List.any_eq_true.2 ⟨x.1, List.mem_iff_getElem?.2 ⟨x.2, ?_⟩, hc⟩
    rw [List.getElem?_take, if_pos (by omega)]
    exact hx
end L
end Go.Proofs.Ytlhagmgfffigfaa
