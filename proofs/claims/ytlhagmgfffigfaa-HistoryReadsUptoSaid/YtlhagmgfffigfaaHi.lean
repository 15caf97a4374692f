/- HistoryReads, plainly: the program's Tickets. Conditions: at most 120 events are looked at. -/
import Derived.Test.YtlhagmgfffigfaaHf
import Derived.Test.YtlhagmgfffigfaaL14
set_option maxRecDepth 100000
namespace Go.Proofs.Ytlhagmgfffigfaa
open Go Go.Abs
namespace L
theorem keep_z {α A : Type} (z : Nat) (o : Option (List α)) (F : Option (List α) → Option A) :
    iff (Nat.beq z z && eqBl Bool.true Bool.true && (eqBl (noO o) (noO (iff (noO o) none (some (rowsO o)))) && (noO (iff (noO o) none (some (rowsO o))) || Nat.beq (List.length (rowsO o)) (List.length (rowsO (iff (noO o) none (some (rowsO o)))))))) (F (iff (noO o) none (some (rowsO o)))) none = F o := by
  rw [natBeq_self]
  exact keep_o o F
/-- the numbers of the events that have a ticket -/
noncomputable def tr1 (k : Int) (e : El t80) : List Int := iff (leQ (Int.ofNat 0) (tk e)) [k] []
theorem tr1_len (k : Int) (e : El t80) : (tr1 k e).length ≤ 1 := by
  unfold tr1
  cases leQ (Int.ofNat 0) (tk e)
  · exact Nat.zero_le _
  · exact Nat.le_refl _
noncomputable def trow : Nat → List (El t80) → List Int
  | _, [] => []
  | k, e :: l => tr1 (Int.ofNat k) e ++ trow (k + 1) l
abbrev X14 : Type := (Unit × Unit × List (El t80) × Int × Int × Unit) × (Option (List Int) × Unit) × List (El t80) × Unit
theorem r14_l6_eq (n : Nat) (l : List (El t80)) (k : Nat) (o : Option (List Int)) (e : El t80) (hk : l[k]? = some e) (hl : l.length ≤ 1000) (h : (rowsO o).length ≤ 900000) :
    r14_l6 n l (Int.ofNat l.length) (Int.ofNat k) o l = some (.inl ((PUnit.unit, PUnit.unit, l, Int.ofNat l.length, Int.ofNat (k + 1), PUnit.unit), (ups o (tr1 (Int.ofNat k) e), PUnit.unit), l, PUnit.unit)) := by
  have hlt := (List.getElem?_eq_some_iff.1 hk).1
  unfold r14_l6
  refine (iff_nf (le_false hlt)).trans ?_
  refine (andThen_of (a := Sum.inl ((PUnit.unit, PUnit.unit, l, Int.ofNat l.length, Int.ofNat k, PUnit.unit), (ups o (tr1 (Int.ofNat k) e), PUnit.unit), l, PUnit.unit)) ?_).trans ?_
  · refine (andThen_of (inRange_nat hlt)).trans ((andThen_of (nthQ_some hk)).trans ?_)
    unfold tr1 ups tk
    cases hc : leQ (Int.ofNat 0) e.2.2.2.2.2.1 with
    | true =>
      rw [iff_t rfl, iff_t rfl]
      exact grow_o (t := t3) 1 9 o (Int.ofNat k) (fun q => some (Sum.inl ((PUnit.unit, PUnit.unit, l, Int.ofNat l.length, Int.ofNat k, PUnit.unit), (q, PUnit.unit), l, PUnit.unit))) (by show ((rowsO o).length + 1) * 9 ≤ _; omega)
    | false =>
      rw [iff_f rfl, iff_f rfl]
      exact keep_z 1 o (fun q => some (Sum.inl ((PUnit.unit, PUnit.unit, l, Int.ofNat l.length, Int.ofNat k, PUnit.unit), (q, PUnit.unit), l, PUnit.unit)))
  · show r14_j10 n l (Int.ofNat l.length) (Int.ofNat k) (ups o (tr1 (Int.ofNat k) e)) l = _
    unfold r14_j10
    have hw : wrapQ .i64 (Int.add (Int.ofNat k) (Int.ofNat 1)) = Int.ofNat (k + 1) := wrap_succ (by omega)
    rw [hw]
    exact keep_z 1 _ (fun q => some (Sum.inl ((PUnit.unit, PUnit.unit, l, Int.ofNat l.length, Int.ofNat (k + 1), PUnit.unit), (q, PUnit.unit), l, PUnit.unit)))
theorem r14_in (n : Nat) (l : List (El t80)) (hl : l.length ≤ 1000) : ∀ (r : List (El t80)) (k m : Nat) (o : Option (List Int)), l.drop k = r → k + r.length = l.length → (rowsO o).length + 2 * r.length ≤ 900000 → r.length < m →
    iterF (fun (x : X14) => r14_l6 n (Prod.fst (Prod.snd (Prod.snd (Prod.fst x)))) (Prod.fst (Prod.snd (Prod.snd (Prod.snd (Prod.fst x))))) (Prod.fst (Prod.snd (Prod.snd (Prod.snd (Prod.snd (Prod.fst x)))))) (Prod.fst (Prod.fst (Prod.snd x))) (Prod.fst (Prod.snd (Prod.snd x)))) m ((PUnit.unit, PUnit.unit, l, Int.ofNat l.length, Int.ofNat k, PUnit.unit), (o, PUnit.unit), l, PUnit.unit) =
      some (.inl ((PUnit.unit, PUnit.unit, PUnit.unit), (ups o (trow k r), PUnit.unit), l, PUnit.unit)) := by
  intro r
  induction r with
  | nil =>
    intro k m o _ hk _ hm
    have hk : k = l.length := by simpa using hk
    subst hk
    obtain ⟨m, rfl⟩ : ∃ q, m = q + 1 := ⟨m - 1, by simp at hm; omega⟩
    refine iterF_inr ?_
    show r14_l6 n l (Int.ofNat l.length) (Int.ofNat l.length) o l = _
    unfold r14_l6
    refine (iff_nt (le_true (Nat.le_refl _))).trans ?_
    unfold ups trow
    cases o <;> simp [noO, rowsO, eqBl_self, iff_eq, andThen]
  | cons e r ih =>
    intro k m o hd hk ho hm
    have he : l[k]? = some e := by
      have : (l.drop k)[0]? = some e := by rw [hd]; rfl
      rwa [List.getElem?_drop, Nat.add_zero] at this
    rw [List.length_cons] at ho hk hm
    obtain ⟨m, rfl⟩ : ∃ q, m = q + 1 := ⟨m - 1, by omega⟩
    refine (iterF_inl (show r14_l6 n l (Int.ofNat l.length) (Int.ofNat k) o l = _ from r14_l6_eq n l k o e he hl (by omega))).trans ?_
    have h1 := tr1_len (Int.ofNat k) e
    refine (ih (k + 1) m _ (by rw [← List.drop_drop, hd]; rfl) (by omega) (by rw [rows_ups, List.length_append]; omega) (by omega)).trans ?_
    rw [ups_ups]
    rfl
theorem trow_len : ∀ (l : List (El t80)) (k : Nat), (trow k l).length ≤ l.length
  | [], _ => Nat.le_refl _
  | e :: l, k => by
    have := trow_len l (k + 1)
    have h1 := tr1_len (Int.ofNat k) e
    show (tr1 (Int.ofNat k) e ++ trow (k + 1) l).length ≤ _
    rw [List.length_append, List.length_cons]
    omega
noncomputable def byT (l : List (El t80)) (xs : List Int) : List Int := xs.mergeSort fun a b => decide (keyT l a ≤ keyT l b)
theorem r14_j11_eq (n : Nat) (l : List (El t80)) (o : Option (List Int)) (hr : ∀ i ∈ rowsO o, 0 ≤ i ∧ i.toNat < l.length) (hn : ((rowsO o).map (keyT l)).Nodup) (hl : (rowsO o).length ≤ 1000000) :
    r14_j11 n o l = some (byT l (rowsO o), Int.ofNat 0, PUnit.unit) := by
  unfold r14_j11
  cases o with
  | none =>
    show some ([], Int.ofNat 0, PUnit.unit) = _
    unfold byT
    rw [rowsO_none, List.mergeSort_nil]
  | some v =>
    have h34 : r34 v (l, PUnit.unit) = some (byT l v) := by
      unfold r34 byT
      exact (if_pos hr).trans (if_pos ⟨hn, hl⟩)
    have hlen : (byT l v).length = v.length := List.length_mergeSort _
    refine (iff_t rfl).trans ((iff_t ?_).trans ((andThen_of (show iff (noO (some v)) (some (rowsO (some v))) (r34 (rowsO (some v)) (l, PUnit.unit)) = some (byT l v) from h34)).trans ((iff_t ?_).trans ((iff_t ?_).trans rfl))))
    · exact natBeq_self _
    · show Nat.beq (byT l v).length v.length = true
      rw [hlen]; exact natBeq_self _
    · show Nat.beq v.length (byT l v).length = true
      rw [hlen]; exact natBeq_self _
theorem mem_trow {x : Int} : ∀ {l : List (El t80)} {k : Nat}, x ∈ trow k l ↔ ∃ (i : Nat) (e : El t80), l[i]? = some e ∧ 0 ≤ tk e ∧ x = Int.ofNat (k + i)
  | [], k => ⟨fun h => (by cases h), fun ⟨i, e, h, _⟩ => by simp at h⟩
  | e :: l, k => by
    show x ∈ tr1 (Int.ofNat k) e ++ trow (k + 1) l ↔ _
    have h1 : x ∈ tr1 (Int.ofNat k) e ↔ 0 ≤ tk e ∧ x = Int.ofNat k := by
      unfold tr1
      have h := le0 (tk e)
      cases hc : leQ (Int.ofNat 0) (tk e) with
      | true => rw [hc] at h; exact ⟨fun hx => ⟨h.1 rfl, List.mem_singleton.1 hx⟩, fun hx => List.mem_singleton.2 hx.2⟩
      | false => rw [hc] at h; exact ⟨fun hx => (by cases hx), fun hx => by cases h.2 hx.1⟩
    rw [List.mem_append, h1, mem_trow (l := l) (k := k + 1)]
    constructor
    · rintro (h | ⟨i, e', h2, h3, h4⟩)
      · exact ⟨0, e, rfl, h⟩
      · exact ⟨i + 1, e', by simpa using h2, h3, by rwa [show k + (i + 1) = k + 1 + i by omega]⟩
    · rintro ⟨i, e', h2, h3, h4⟩
      cases i with
      | zero => simp at h2; subst h2; exact .inl ⟨h3, h4⟩
      | succ i => exact .inr ⟨i, e', by simpa using h2, h3, by rwa [show k + 1 + i = k + (i + 1) by omega]⟩
theorem trow_lt : ∀ (l : List (El t80)) (k : Nat), (trow k l).Pairwise (· < ·)
  | [], _ => .nil
  | e :: l, k => by
    show (tr1 (Int.ofNat k) e ++ trow (k + 1) l).Pairwise (· < ·)
    rw [List.pairwise_append]
    refine ⟨?_, trow_lt l (k + 1), fun x hx y hy => ?_⟩
    · have := tr1_len (Int.ofNat k) e
      match tr1 (Int.ofNat k) e, this with
      | [], _ => exact .nil
      | [x], _ => exact List.pairwise_singleton _ _
      | _ :: _ :: _, h => simp at h
    · obtain ⟨i, e', _, _, rfl⟩ := mem_trow.1 hy
      have : x = Int.ofNat k := by
        unfold tr1 at hx
        cases hc : leQ (Int.ofNat 0) (tk e) with
        | true => rw [hc] at hx; exact List.mem_singleton.1 hx
        | false => rw [hc] at hx; cases hx
      rw [this]
      exact Int.ofNat_lt.2 (by omega)
theorem keyT_at {l : List (El t80)} {i : Nat} {e : El t80} (h : l[i]? = some e) : keyT l (Int.ofNat i) = tk e := by
  unfold keyT
  rw [show (Int.ofNat i).toNat = i from rfl, h]; rfl
theorem trow_keys {l : List (El t80)} (h : l.Pairwise Later) : ((trow 0 l).map (keyT l)).Nodup := by
  unfold List.Nodup
  rw [List.pairwise_map]
  refine (trow_lt l 0).imp_of_mem fun {a b} ha hb hab => ?_
  obtain ⟨i, e, h1, h2, rfl⟩ := mem_trow.1 ha
  obtain ⟨j, f, h3, h4, rfl⟩ := mem_trow.1 hb
  rw [Nat.zero_add] at hab ⊢
  rw [Nat.zero_add] at hab ⊢
  rw [keyT_at h1, keyT_at h3]
  have hij : i < j := Int.ofNat_lt.1 hab
  obtain ⟨h5, h6⟩ := List.getElem?_eq_some_iff.1 h1
  obtain ⟨h7, h8⟩ := List.getElem?_eq_some_iff.1 h3
  have := (List.pairwise_iff_getElem.1 h) i j h5 h7 hij
  rw [h6, h8] at this
  exact fun he => this h4 he.symm
theorem trow_in {l : List (El t80)} : ∀ i ∈ trow 0 l, 0 ≤ i ∧ i.toNat < l.length := fun i hi => by
  obtain ⟨j, e, h1, _, rfl⟩ := mem_trow.1 hi
  exact ⟨Int.natCast_nonneg _, by
    show 0 + j < _
    have := (List.getElem?_eq_some_iff.1 h1).1
    omega⟩
/-- what both say -/
noncomputable def tickets (l : List (El t80)) : List Int × Int × Unit := if code l = 0 then (byT l (trow 0 l), Int.ofNat 0, PUnit.unit) else ([], code l, PUnit.unit)
theorem r14_tickets (n : Nat) (hn : 2000 ≤ n) (l : List (El t80)) : r14 n (l, PUnit.unit) = some (tickets l) := by
  show r14c n l = _
  unfold r14c tickets
  refine (andThen_of (r20_eq n (by omega) l)).trans ?_
  show iff (!eqQ (code l) (Int.ofNat 0)) _ _ = _
  by_cases hc : code l = 0
  · rw [if_pos hc, eq0, decide_eq_true hc]
    obtain ⟨h1, h2⟩ := code_zero hc
    have h3 := trow_len l 0
    refine (iff_f rfl).trans ((andThen_of (r14_in n l (by omega) l 0 n none rfl (by omega) (by show 0 + _ ≤ _; omega) (by omega))).trans ?_)
    show r14_j11 n (ups none (trow 0 l)) l = _
    have hr : rowsO (ups none (trow 0 l)) = trow 0 l := by rw [rows_ups]; rfl
    rw [r14_j11_eq n l _ (by rw [hr]; exact trow_in) (by rw [hr]; exact trow_keys h2.2.2.1) (by rw [hr]; omega), hr]
  · rw [if_neg hc, eq0, decide_eq_false hc]
    rfl
end L
end Go.Proofs.Ytlhagmgfffigfaa
