/- HistoryReads, plainly: Points. Conditions: at most 120 events are looked at. -/
import Derived.Test.YtlhagmgfffigfaaHe
import Derived.Test.YtlhagmgfffigfaaL12
import Derived.Test.YtlhagmgfffigfaaL13
set_option maxRecDepth 100000
namespace Go.Proofs.Ytlhagmgfffigfaa
open Go Go.Abs
namespace L
noncomputable def prA (k : Int) (e : El t80) : List (El t82) := iff (leQ (Int.ofNat 0) (ac e)) [(ac e, k, Int.ofNat 1, PUnit.unit)] []
noncomputable def prS (k : Int) (e : El t80) : List (El t82) := iff (leQ (Int.ofNat 0) (sh e)) [(sh e, k, Int.ofNat 2, PUnit.unit)] []
theorem prA_len (k : Int) (e : El t80) : (prA k e).length ≤ 1 := by
  unfold prA
  cases leQ (Int.ofNat 0) (ac e)
  · exact Nat.zero_le _
  · exact Nat.le_refl _
theorem prS_len (k : Int) (e : El t80) : (prS k e).length ≤ 1 := by
  unfold prS
  cases leQ (Int.ofNat 0) (sh e)
  · exact Nat.zero_le _
  · exact Nat.le_refl _
/-- the program's points, before they are put in order -/
noncomputable def prow : Nat → List (El t80) → List (El t82)
  | _, [] => []
  | k, e :: l => (prA (Int.ofNat k) e ++ prS (Int.ofNat k) e) ++ prow (k + 1) l
abbrev X12 : Type := (Unit × List (El t80) × Int × Int × Unit) × (Option (List (El t82)) × Unit) × Unit
theorem r12_l6_eq (n : Nat) (l : List (El t80)) (k : Nat) (o : Option (List (El t82))) (e : El t80) (hk : l[k]? = some e) (hl : l.length ≤ 1000) (h : (rowsO o).length ≤ 900000) :
    r12_l6 n l (Int.ofNat l.length) (Int.ofNat k) o = some (.inl ((PUnit.unit, l, Int.ofNat l.length, Int.ofNat (k + 1), PUnit.unit), (ups o (prA (Int.ofNat k) e ++ prS (Int.ofNat k) e), PUnit.unit), PUnit.unit)) := by
  have hlt := (List.getElem?_eq_some_iff.1 hk).1
  have hj10 : ∀ o' : Option (List (El t82)), (rowsO o').length ≤ 1000000 → r12_j10 n (Int.ofNat k) l (Int.ofNat l.length) (Int.ofNat k) o' e = some (.inl ((PUnit.unit, l, Int.ofNat l.length, Int.ofNat k, PUnit.unit), (ups o' (prS (Int.ofNat k) e), PUnit.unit), PUnit.unit)) := fun o' ho => by
    unfold r12_j10 prS ups sh
    cases hc : leQ (Int.ofNat 0) e.2.2.2.2.2.2.2.2.2.1 with
    | true =>
      rw [iff_t rfl, iff_t rfl]
      exact grow_o (t := t82) 3 25 o' (e.2.2.2.2.2.2.2.2.2.1, Int.ofNat k, Int.ofNat 2, PUnit.unit) (fun q => some (Sum.inl ((PUnit.unit, l, Int.ofNat l.length, Int.ofNat k, PUnit.unit), (q, PUnit.unit), PUnit.unit))) (by omega)
    | false =>
      rw [iff_f rfl, iff_f rfl]
      exact keep_o o' (fun q => some (Sum.inl ((PUnit.unit, l, Int.ofNat l.length, Int.ofNat k, PUnit.unit), (q, PUnit.unit), PUnit.unit)))
  unfold r12_l6
  refine (iff_nf (le_false hlt)).trans ?_
  refine (andThen_of (a := Sum.inl ((PUnit.unit, l, Int.ofNat l.length, Int.ofNat k, PUnit.unit), (ups o (prA (Int.ofNat k) e ++ prS (Int.ofNat k) e), PUnit.unit), PUnit.unit)) ?_).trans ?_
  · refine (andThen_of (inRange_nat hlt)).trans ((andThen_of (nthQ_some hk)).trans ?_)
    refine (andThen_of (a := Sum.inl ((PUnit.unit, Int.ofNat k, PUnit.unit, l, Int.ofNat l.length, Int.ofNat k, PUnit.unit), (ups o (prA (Int.ofNat k) e), PUnit.unit), e, PUnit.unit)) ?_).trans ?_
    · unfold prA ups ac
      cases hc : leQ (Int.ofNat 0) e.2.2.2.2.2.2.2.1 with
      | true =>
        rw [iff_t rfl, iff_t rfl]
        exact grow_o (t := t82) 3 25 o (e.2.2.2.2.2.2.2.1, Int.ofNat k, Int.ofNat 1, PUnit.unit) (fun q => some (Sum.inl ((PUnit.unit, Int.ofNat k, PUnit.unit, l, Int.ofNat l.length, Int.ofNat k, PUnit.unit), (q, PUnit.unit), e, PUnit.unit))) (by omega)
      | false =>
        rw [iff_f rfl, iff_f rfl]
        exact keep_o o (fun q => some (Sum.inl ((PUnit.unit, Int.ofNat k, PUnit.unit, l, Int.ofNat l.length, Int.ofNat k, PUnit.unit), (q, PUnit.unit), e, PUnit.unit)))
    · show r12_j10 n (Int.ofNat k) l (Int.ofNat l.length) (Int.ofNat k) (ups o (prA (Int.ofNat k) e)) e = _
      have h1 := prA_len (Int.ofNat k) e
      rw [hj10 _ (by rw [rows_ups, List.length_append]; omega), ups_ups]
  · show r12_j12 n l (Int.ofNat l.length) (Int.ofNat k) (ups o (prA (Int.ofNat k) e ++ prS (Int.ofNat k) e)) = _
    unfold r12_j12
    have hw : wrapQ .i64 (Int.add (Int.ofNat k) (Int.ofNat 1)) = Int.ofNat (k + 1) := wrap_succ (by omega)
    rw [hw]
    exact keep_o _ (fun q => some (Sum.inl ((PUnit.unit, l, Int.ofNat l.length, Int.ofNat (k + 1), PUnit.unit), (q, PUnit.unit), PUnit.unit)))
theorem r12_in (n : Nat) (l : List (El t80)) (hl : l.length ≤ 1000) : ∀ (r : List (El t80)) (k m : Nat) (o : Option (List (El t82))), l.drop k = r → k + r.length = l.length → (rowsO o).length + 2 * r.length ≤ 900000 → r.length < m →
    iterF (fun (x : X12) => r12_l6 n (Prod.fst (Prod.snd (Prod.fst x))) (Prod.fst (Prod.snd (Prod.snd (Prod.fst x)))) (Prod.fst (Prod.snd (Prod.snd (Prod.snd (Prod.fst x))))) (Prod.fst (Prod.fst (Prod.snd x)))) m ((PUnit.unit, l, Int.ofNat l.length, Int.ofNat k, PUnit.unit), (o, PUnit.unit), PUnit.unit) =
      some (.inl ((PUnit.unit, PUnit.unit), (ups o (prow k r), PUnit.unit), PUnit.unit)) := by
  intro r
  induction r with
  | nil =>
    intro k m o _ hk _ hm
    have hk : k = l.length := by simpa using hk
    subst hk
    obtain ⟨m, rfl⟩ : ∃ q, m = q + 1 := ⟨m - 1, by simp at hm; omega⟩
    refine iterF_inr ?_
    show r12_l6 n l (Int.ofNat l.length) (Int.ofNat l.length) o = _
    unfold r12_l6
    refine (iff_nt (le_true (Nat.le_refl _))).trans ?_
    unfold ups prow
    cases o <;> simp [noO, rowsO, eqBl_self, iff_eq, andThen] <;> rfl
  | cons e r ih =>
    intro k m o hd hk ho hm
    have he : l[k]? = some e := by
      have : (l.drop k)[0]? = some e := by rw [hd]; rfl
      rwa [List.getElem?_drop, Nat.add_zero] at this
    rw [List.length_cons] at ho hk hm
    obtain ⟨m, rfl⟩ : ∃ q, m = q + 1 := ⟨m - 1, by omega⟩
    refine (iterF_inl (show r12_l6 n l (Int.ofNat l.length) (Int.ofNat k) o = _ from r12_l6_eq n l k o e he hl (by omega))).trans ?_
    have h1 := prA_len (Int.ofNat k) e
    have h2 := prS_len (Int.ofNat k) e
    refine (ih (k + 1) m _ (by rw [← List.drop_drop, hd]; rfl) (by omega) (by rw [rows_ups, List.length_append, List.length_append]; omega) (by omega)).trans ?_
    rw [ups_ups]
    rfl
theorem prow_len : ∀ (l : List (El t80)) (k : Nat), (prow k l).length ≤ 2 * l.length
  | [], _ => Nat.le_refl _
  | e :: l, k => by
    have := prow_len l (k + 1)
    have h1 := prA_len (Int.ofNat k) e
    have h2 := prS_len (Int.ofNat k) e
    show ((prA (Int.ofNat k) e ++ prS (Int.ofNat k) e) ++ prow (k + 1) l).length ≤ _
    rw [List.length_append, List.length_append, List.length_cons]
    omega
noncomputable def inOrder (l : List (El t82)) : List (El t82) := l.mergeSort fun a b => decide (pAt a ≤ pAt b)
theorem r12_j13_eq (n : Nat) (o : Option (List (El t82))) (hn : ((rowsO o).map pAt).Nodup) (hl : (rowsO o).length ≤ 1000000) : r12_j13 n o = some (inOrder (rowsO o), Int.ofNat 0, PUnit.unit) := by
  unfold r12_j13
  cases o with
  | none =>
    show some ([], Int.ofNat 0, PUnit.unit) = _
    unfold inOrder
    rw [rowsO_none, List.mergeSort_nil]
  | some v =>
    have hr : r30 v PUnit.unit = some (inOrder v) := by
      unfold r30 ordBy inOrder
      exact if_pos ⟨hn, hl⟩
    have hlen : (inOrder v).length = v.length := List.length_mergeSort _
    refine (iff_t rfl).trans ((iff_t ?_).trans ((andThen_of (show iff (noO (some v)) (some (rowsO (some v))) (r30 (rowsO (some v)) PUnit.unit) = some (inOrder v) from hr)).trans ((iff_t ?_).trans ((iff_t ?_).trans rfl))))
    · exact natBeq_self _
    · show Nat.beq (inOrder v).length v.length = true
      rw [hlen]; exact natBeq_self _
    · show Nat.beq v.length (inOrder v).length = true
      rw [hlen]; exact natBeq_self _
theorem eq0 (x : Int) : eqQ x (Int.ofNat 0) = decide (x = 0) := eqQ_dec x 0
theorem r12_eq (n : Nat) (hn : 2000 ≤ n) (l : List (El t80)) (hnd : code l = 0 → ((prow 0 l).map pAt).Nodup) (hl : code l = 0 → l.length ≤ 120) :
    r12 n (l, PUnit.unit) = some (if code l = 0 then (inOrder (prow 0 l), Int.ofNat 0, PUnit.unit) else ([], code l, PUnit.unit)) := by
  show r12c n l = _
  unfold r12c
  refine (andThen_of (r20_eq n (by omega) l)).trans ?_
  show iff (!eqQ (code l) (Int.ofNat 0)) _ _ = _
  by_cases hc : code l = 0
  · rw [if_pos hc, eq0, decide_eq_true hc]
    have h1 := hl hc
    have h2 := prow_len l 0
    refine (iff_f rfl).trans ((andThen_of (r12_in n l (by omega) l 0 n none rfl (by omega) (by show 0 + _ ≤ _; omega) (by omega))).trans ?_)
    show r12_j13 n (ups none (prow 0 l)) = _
    have hr : rowsO (ups none (prow 0 l)) = prow 0 l := by rw [rows_ups]; rfl
    rw [r12_j13_eq n _ (by rw [hr]; exact hnd hc) (by rw [hr]; omega), hr]
  · rw [if_neg hc, eq0, decide_eq_false hc]
    rfl
theorem r13_eq (n : Nat) (hn : 100000 ≤ n) (l : List (El t80)) (hl : code l = 0 → l.length ≤ 120) :
    r13 n (l, PUnit.unit) = some (if code l = 0 then (pts33 l, Int.ofNat 0, PUnit.unit) else ([], code l, PUnit.unit)) := by
  show r13c n l = _
  unfold r13c
  refine (andThen_of (r21_code n hn l)).trans ?_
  show iff (!eqQ (code l) (Int.ofNat 0)) _ _ = _
  by_cases hc : code l = 0
  · rw [if_pos hc, eq0, decide_eq_true hc]
    have h1 := hl hc
    exact (iff_f rfl).trans ((andThen_of (r33_eq n l (by omega) (by omega))).trans rfl)
  · rw [if_neg hc, eq0, decide_eq_false hc]
    exact (iff_t rfl).trans ((andThen_of (r21_code n hn l)).trans rfl)

/-! ### both are the same points -/
theorem mem_prA {k : Int} {e : El t80} {x : El t82} : x ∈ prA k e ↔ 0 ≤ ac e ∧ x = (ac e, k, Int.ofNat 1, PUnit.unit) := by
  unfold prA
  have h := le0 (ac e)
  cases hc : leQ (Int.ofNat 0) (ac e) with
  | true => rw [hc] at h; exact ⟨fun hx => ⟨h.1 rfl, List.mem_singleton.1 hx⟩, fun hx => List.mem_singleton.2 hx.2⟩
  | false => rw [hc] at h; exact ⟨fun hx => (by cases hx), fun hx => by cases h.2 hx.1⟩
theorem mem_prS {k : Int} {e : El t80} {x : El t82} : x ∈ prS k e ↔ 0 ≤ sh e ∧ x = (sh e, k, Int.ofNat 2, PUnit.unit) := by
  unfold prS
  have h := le0 (sh e)
  cases hc : leQ (Int.ofNat 0) (sh e) with
  | true => rw [hc] at h; exact ⟨fun hx => ⟨h.1 rfl, List.mem_singleton.1 hx⟩, fun hx => List.mem_singleton.2 hx.2⟩
  | false => rw [hc] at h; exact ⟨fun hx => (by cases hx), fun hx => by cases h.2 hx.1⟩
theorem mem_prow {x : El t82} : ∀ {l : List (El t80)} {k : Nat}, x ∈ prow k l ↔ ∃ (i : Nat) (e : El t80), l[i]? = some e ∧ (x ∈ prA (Int.ofNat (k + i)) e ∨ x ∈ prS (Int.ofNat (k + i)) e)
  | [], k => ⟨fun h => (by cases h), fun ⟨i, e, h, _⟩ => by simp at h⟩
  | e :: l, k => by
    show x ∈ (prA (Int.ofNat k) e ++ prS (Int.ofNat k) e) ++ prow (k + 1) l ↔ _
    rw [List.mem_append, List.mem_append, mem_prow (l := l) (k := k + 1)]
    constructor
    · rintro (h | ⟨i, e', h1, h2⟩)
      · exact ⟨0, e, rfl, h⟩
      · exact ⟨i + 1, e', by simpa using h1, by rwa [show k + (i + 1) = k + 1 + i by omega]⟩
    · rintro ⟨i, e', h1, h2⟩
      cases i with
      | zero => simp at h1; subst h1; exact .inl h2
      | succ i => exact .inr ⟨i, e', by simpa using h1, by rwa [show k + 1 + i = k + (i + 1) by omega]⟩
theorem prow_keys : ∀ (l : List (El t80)) (k : Nat), (prow k l).map pAt = places l
  | [], _ => rfl
  | e :: l, k => by
    show ((prA (Int.ofNat k) e ++ prS (Int.ofNat k) e) ++ prow (k + 1) l).map pAt = pls e ++ places l
    rw [List.map_append, List.map_append, prow_keys l (k + 1)]
    congr 1
    unfold prA prS pls
    have h1 := le0 (ac e)
    have h2 := le0 (sh e)
    cases hx : leQ (Int.ofNat 0) (ac e) <;> cases hy : leQ (Int.ofNat 0) (sh e) <;> rw [hx] at h1 <;> rw [hy] at h2 <;> simp at h1 h2
    · rw [List.filter_cons_of_neg (by simpa using h1), List.filter_cons_of_neg (by simpa using h2)]; rfl
    · rw [List.filter_cons_of_neg (by simpa using h1), List.filter_cons_of_pos (by simpa using h2)]; rfl
    · rw [List.filter_cons_of_pos (by simpa using h1), List.filter_cons_of_neg (by simpa using h2)]; rfl
    · rw [List.filter_cons_of_pos (by simpa using h1), List.filter_cons_of_pos (by simpa using h2)]; rfl
/-- lists in order, with the same things in them, are the same -/
theorem up_unique {α : Type} (key : α → Int) : ∀ {l m : List α}, l.Pairwise (fun x y => key x < key y) → m.Pairwise (fun x y => key x < key y) → (∀ x, x ∈ l ↔ x ∈ m) → l = m
  | [], [], _, _, _ => rfl
  | [], b :: m, _, _, h => by have := (h b).2 (List.mem_cons_self ..); cases this
  | a :: l, [], _, _, h => by have := (h a).1 (List.mem_cons_self ..); cases this
  | a :: l, b :: m, h1, h2, h => by
    rw [List.pairwise_cons] at h1 h2
    have hab : a = b := by
      rcases List.mem_cons.1 ((h a).1 (List.mem_cons_self ..)) with h3 | h3
      · exact h3
      · rcases List.mem_cons.1 ((h b).2 (List.mem_cons_self ..)) with h4 | h4
        · exact h4.symm
        · have := h1.1 b h4; have := h2.1 a h3; omega
    subst hab
    congr 1
    refine up_unique key h1.2 h2.2 fun x => ⟨fun hx => ?_, fun hx => ?_⟩
    · rcases List.mem_cons.1 ((h x).1 (List.mem_cons_of_mem _ hx)) with h3 | h3
      · have := h1.1 x hx; rw [h3] at this; omega
      · exact h3
    · rcases List.mem_cons.1 ((h x).2 (List.mem_cons_of_mem _ hx)) with h3 | h3
      · have := h2.1 x hx; rw [h3] at this; omega
      · exact h3
theorem sorted_up {α : Type} (key : α → Int) {l : List α} (h : (l.map key).Nodup) : (l.mergeSort fun a b => decide (key a ≤ key b)).Pairwise fun x y => key x < key y := by
  have h1 := List.pairwise_mergeSort (le := fun a b => decide (key a ≤ key b)) (fun a b c h1 h2 => by simp at h1 h2 ⊢; omega) (fun a b => by simp; omega) l
  have h2 : ((l.mergeSort fun a b => decide (key a ≤ key b)).map key).Nodup := ((List.mergeSort_perm l _).map key).nodup_iff.2 h
  have h3 : (l.mergeSort fun a b => decide (key a ≤ key b)).Pairwise fun x y => key x ≠ key y := List.pairwise_map.1 h2
  refine (h1.and h3).imp fun {a b} hab => ?_
  have := hab.1
  have := hab.2
  simp at *
  omega
theorem pts_same {l : List (El t80)} (h : Good l) : inOrder (prow 0 l) = pts33 l := by
  have hk : ((prow 0 l).map pAt).Nodup := by rw [prow_keys]; exact h.2.2.2
  refine up_unique pAt (sorted_up pAt hk) (pts33_up h) fun x => ?_
  have h1 : x ∈ inOrder (prow 0 l) ↔ x ∈ prow 0 l := (List.mergeSort_perm (prow 0 l) _).mem_iff
  rw [h1, mem_prow]
  show _ ↔ x ∈ all33 l (List.range' 0 120)
  rw [mem_all33]
  constructor
  · rintro ⟨i, e, he, hx⟩
    obtain ⟨hb0, hb1, ha, hs⟩ := valid_facts (h.1 e (List.mem_of_getElem? he))
    rcases hx with hx | hx
    · obtain ⟨g1, rfl⟩ := mem_prA.1 hx
      have hlt : ac e < 120 := by rcases ha with ha | ha <;> omega
      obtain ⟨b, hb⟩ := Int.eq_ofNat_of_zero_le g1
      refine ⟨b, by rw [List.mem_range']; exact ⟨b, by omega, by omega⟩, mem_row33.2 ⟨i, e, he, .inl (mem_atA.2 ⟨hb, ?_⟩)⟩⟩
      rw [hb]; rfl
    · obtain ⟨g1, rfl⟩ := mem_prS.1 hx
      have hlt : sh e < 120 := by rcases hs with hs | hs <;> omega
      obtain ⟨b, hb⟩ := Int.eq_ofNat_of_zero_le g1
      refine ⟨b, by rw [List.mem_range']; exact ⟨b, by omega, by omega⟩, mem_row33.2 ⟨i, e, he, .inr (mem_atS.2 ⟨hb, ?_⟩)⟩⟩
      rw [hb]; rfl
  · rintro ⟨b, _, hx⟩
    obtain ⟨i, e, he, hx⟩ := mem_row33.1 hx
    refine ⟨i, e, he, ?_⟩
    rcases hx with hx | hx
    · obtain ⟨g1, rfl⟩ := mem_atA.1 hx
      exact .inl (mem_prA.2 ⟨by rw [g1]; exact Int.natCast_nonneg b, by rw [g1]⟩)
    · obtain ⟨g1, rfl⟩ := mem_atS.1 hx
      exact .inr (mem_prS.2 ⟨by rw [g1]; exact Int.natCast_nonneg b, by rw [g1]⟩)
theorem code_zero {l : List (El t80)} (h : code l = 0) : l.length ≤ 120 ∧ Good l := by
  by_cases hl : l.length ≤ 120
  · refine ⟨hl, Classical.byContradiction fun hn => ?_⟩
    rw [(code_good hl).2 hn] at h
    cases h
  · rw [code_many (by omega)] at h; cases h
/-- what both say -/
noncomputable def points (l : List (El t80)) : List (El t82) × Int × Unit := if code l = 0 then (pts33 l, Int.ofNat 0, PUnit.unit) else ([], code l, PUnit.unit)
theorem r12_points (n : Nat) (hn : 100000 ≤ n) (l : List (El t80)) : r12 n (l, PUnit.unit) = some (points l) := by
  rw [r12_eq n (by omega) l (fun h => by rw [prow_keys]; exact (code_zero h).2.2.2.2) (fun h => (code_zero h).1)]
  unfold points
  by_cases hc : code l = 0
  · rw [if_pos hc, if_pos hc, pts_same (code_zero hc).2]
  · rw [if_neg hc, if_neg hc]
theorem r13_points (n : Nat) (hn : 100000 ≤ n) (l : List (El t80)) : r13 n (l, PUnit.unit) = some (points l) := r13_eq n hn l fun h => (code_zero h).1
theorem pts33_len (l : List (El t80)) : (pts33 l).length ≤ 240 * l.length := by
  have := all33_len l (List.range' 0 120)
  rw [List.length_range'] at this
  show (all33 l (List.range' 0 120)).length ≤ _
  omega
end L
end Go.Proofs.Ytlhagmgfffigfaa
