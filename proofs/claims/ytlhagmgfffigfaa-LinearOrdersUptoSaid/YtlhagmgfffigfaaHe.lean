/- HistoryReads, plainly: both checks are the same; the reference's points are in order. Conditions: none. -/
import Derived.Test.YtlhagmgfffigfaaHd
set_option maxRecDepth 100000
namespace Go.Proofs.Ytlhagmgfffigfaa
open Go Go.Abs
namespace L
theorem chainB_iff : ∀ (l : List (El t80)) (b : Int), chainB b l ↔ (∀ e, l[0]? = some e → b < bg e) ∧ ∀ (j : Nat) p e, l[j]? = some p → l[j + 1]? = some e → bg p < bg e
  | [], b => ⟨fun _ => ⟨fun e h => by simp at h, fun j p e h => by simp at h⟩, fun _ => trivial⟩
  | x :: l, b => by
    show (b < bg x ∧ chainB (bg x) l) ↔ _
    rw [chainB_iff l (bg x)]
    constructor
    · rintro ⟨h1, h2, h3⟩
      refine ⟨fun e h => by simp at h; subst h; exact h1, fun j p e hp he => ?_⟩
      cases j with
      | zero =>
        simp at hp
        subst hp
        exact h2 e (by simpa using he)
      | succ j => exact h3 j p e (by simpa using hp) (by simpa using he)
    · rintro ⟨h1, h2⟩
      exact ⟨h1 x rfl, fun e he => h2 0 x e rfl (by simpa using he), fun j p e hp he => h2 (j + 1) p e (by simpa using hp) (by simpa using he)⟩
theorem seek_at {α R : Type} {p : α → Bool} {hit : Nat → R} {fin : R} : ∀ (l : List α) (k j : Nat) (e : α), l[j]? = some e → p e = true → (∀ (i : Nat) e', i < j → l[i]? = some e' → p e' = false) → seek p hit fin l k = hit (k + j)
  | [], k, j, e, h, _, _ => by simp at h
  | a :: l, k, j, e, h, hp, hb => by
    unfold seek
    cases j with
    | zero =>
      simp at h
      subst h
      rw [if_pos hp, Nat.add_zero]
    | succ j =>
      have h0 := hb 0 a (Nat.succ_pos j) rfl
      rw [if_neg (by rw [h0]; decide), seek_at l (k + 1) j e (by simpa using h) hp fun i e' hi he => hb (i + 1) e' (by omega) (by simpa using he)]
      congr 1; omega
theorem seek_le {α R : Type} {p : α → Bool} {hit : Nat → R} {fin : R} : ∀ (l : List α) (k j : Nat) (e : α), l[j]? = some e → p e = true → ∃ i, i ≤ j ∧ seek p hit fin l k = hit (k + i)
  | [], k, j, e, h, _ => by simp at h
  | a :: l, k, j, e, h, hp => by
    unfold seek
    by_cases ha : p a = true
    · exact ⟨0, Nat.zero_le _, by rw [if_pos ha, Nat.add_zero]⟩
    · cases j with
      | zero =>
        simp at h
        subst h
        exact absurd hp ha
      | succ j =>
        obtain ⟨i, h1, h2⟩ := seek_le (hit := hit) (fin := fin) l (k + 1) j e (by simpa using h) hp
        refine ⟨i + 1, by omega, ?_⟩
        rw [if_neg ha, h2]
        congr 1; omega
theorem hasT_iff (t : Int) (e : El t80) : hasT t e = true ↔ 0 ≤ tk e ∧ tk e = t := by
  unfold hasT
  show and (leQ (Int.ofNat 0) (tk e)) (eqQ (tk e) t) = true ↔ _
  rw [Bool.and_eq_true, le0, eqQ_dec, decide_eq_true_eq]
theorem later_iff (l : List (El t80)) : l.Pairwise Later ↔ ∀ (k : Nat) e, l[k]? = some e → 0 ≤ tk e → ticketed l (tk e) = Int.ofNat k := by
  rw [List.pairwise_iff_getElem]
  constructor
  · intro h k e hk ht
    have := seek_at (p := hasT (tk e)) (hit := Int.ofNat) (fin := Int.negSucc 0) l 0 k e hk ((hasT_iff _ _).2 ⟨ht, rfl⟩) fun i e' hi he => by
      cases hc : hasT (tk e) e' with
      | false => rfl
      | true =>
        obtain ⟨h1, h2⟩ := (hasT_iff _ _).1 hc
        obtain ⟨hi1, hi2⟩ := List.getElem?_eq_some_iff.1 he
        obtain ⟨hk1, hk2⟩ := List.getElem?_eq_some_iff.1 hk
        have := h i k hi1 hk1 hi
        rw [hi2, hk2] at this
        exact absurd h2.symm (this ht)
    unfold ticketed
    rw [this, Nat.zero_add]
  · intro h i j hi hj hij ht he
    obtain ⟨m, h1, h2⟩ := seek_le (p := hasT (tk l[j])) (hit := Int.ofNat) (fin := Int.negSucc 0) l 0 i l[i] (List.getElem?_eq_getElem hi) ((hasT_iff _ _).2 ⟨he ▸ ht, he.symm⟩)
    have h3 := h j l[j] (List.getElem?_eq_getElem hj) ht
    unfold ticketed at h3
    rw [h2] at h3
    have : 0 + m = j := Int.ofNat.inj h3
    omega
theorem any21_iff (l : List (El t80)) : ∀ (r : List (El t80)) (k : Nat), any21 l k r = false ↔ ∀ (i : Nat) e, r[i]? = some e → bad21 l (k + i) e = false
  | [], k => ⟨fun _ i e h => by simp at h, fun _ => rfl⟩
  | x :: r, k => by
    show or (bad21 l k x) (any21 l (k + 1) r) = false ↔ _
    rw [Bool.or_eq_false_iff, any21_iff l r (k + 1)]
    constructor
    · rintro ⟨h1, h2⟩ i e he
      cases i with
      | zero => simp at he; subst he; exact h1
      | succ i =>
        have := h2 i e (by simpa using he)
        rwa [show k + 1 + i = k + (i + 1) by omega] at this
    · intro h
      exact ⟨h 0 x rfl, fun i e he => by
        have := h (i + 1) e (by simpa using he)
        rwa [show k + (i + 1) = k + 1 + i by omega] at this⟩
theorem bad21_iff (l : List (El t80)) (k : Nat) (e : El t80) : bad21 l k e = false ↔ validE e = true ∧ prevLe l k e = false ∧ (0 ≤ tk e → ticketed l (tk e) = Int.ofNat k) := by
  unfold bad21
  have h1 := le0 (tk e)
  have h2 : eqQ (ticketed l (tk e)) (Int.ofNat k) = true ↔ ticketed l (tk e) = Int.ofNat k := by rw [eqQ_dec, decide_eq_true_eq]
  cases validE e <;> cases prevLe l k e <;> cases hx : leQ (Int.ofNat 0) (tk e) <;> cases hy : eqQ (ticketed l (tk e)) (Int.ofNat k) <;> rw [hx] at h1 <;> rw [hy] at h2 <;> simp at h1 h2 ⊢ <;> (try exact h2) <;> (try exact ⟨h1, h2⟩) <;> (try (intro h3; exact absurd h3 (by omega))) <;> (try exact fun _ => h2)
theorem valid_facts {e : El t80} (h : validE e = true) : 0 ≤ bg e ∧ bg e < 120 ∧ Pt (ac e) (bg e) ∧ Pt (sh e) (bg e) := by
  unfold validE vB at h
  simp only [Bool.and_eq_true, Bool.not_eq_true'] at h
  obtain ⟨h1, h2, h3, _, h4, _⟩ := h
  have h1 : leQ (Int.ofNat 0) (bg e) = true := h1
  have h2 : leQ (Int.ofNat 120) (bg e) = false := h2
  rw [leQ_dec, decide_eq_false_iff_not] at h2
  refine ⟨(le0 _).1 h1, ?_, (ptB_iff _ _).1 h3, (ptB_iff _ _).1 h4⟩
  have : ¬ (120 : Int) ≤ bg e := h2
  omega
theorem places_lt {l : List (El t80)} (h : ∀ e ∈ l, validE e = true) : ∀ x ∈ places l, 0 ≤ x ∧ x < 120 := fun x hx => by
  obtain ⟨e, he, hx⟩ := List.mem_flatMap.1 hx
  obtain ⟨h0, h1⟩ := mem_pls.1 hx
  obtain ⟨_, _, h2, h3⟩ := valid_facts (h e he)
  refine ⟨h0, ?_⟩
  rcases h1 with rfl | rfl
  · rcases h2 with h2 | h2 <;> omega
  · rcases h3 with h3 | h3 <;> omega

/-! ### the reference's points -/
theorem mem_atA {a k : Int} {e : El t80} {x : El t82} : x ∈ atA a k e ↔ ac e = a ∧ x = (a, k, Int.ofNat 1, PUnit.unit) := by
  unfold atA
  rw [eqQ_dec, iff_eq]
  by_cases h : ac e = a
  · rw [if_pos (decide_eq_true h)]
    exact ⟨fun hx => ⟨h, List.mem_singleton.1 hx⟩, fun hx => List.mem_singleton.2 hx.2⟩
  · rw [if_neg (by rw [decide_eq_false h]; decide)]
    exact ⟨fun hx => (by cases hx), fun hx => absurd hx.1 h⟩
theorem mem_atS {a k : Int} {e : El t80} {x : El t82} : x ∈ atS a k e ↔ sh e = a ∧ x = (a, k, Int.ofNat 2, PUnit.unit) := by
  unfold atS
  rw [eqQ_dec, iff_eq]
  by_cases h : sh e = a
  · rw [if_pos (decide_eq_true h)]
    exact ⟨fun hx => ⟨h, List.mem_singleton.1 hx⟩, fun hx => List.mem_singleton.2 hx.2⟩
  · rw [if_neg (by rw [decide_eq_false h]; decide)]
    exact ⟨fun hx => (by cases hx), fun hx => absurd hx.1 h⟩
theorem mem_row33 {a : Int} {x : El t82} : ∀ {l : List (El t80)} {k : Nat}, x ∈ row33 a k l ↔ ∃ (i : Nat) (e : El t80), l[i]? = some e ∧ (x ∈ atA a (Int.ofNat (k + i)) e ∨ x ∈ atS a (Int.ofNat (k + i)) e)
  | [], k => ⟨fun h => (by cases h), fun ⟨i, e, h, _⟩ => by simp at h⟩
  | e :: l, k => by
    show x ∈ (atA a (Int.ofNat k) e ++ atS a (Int.ofNat k) e) ++ row33 a (k + 1) l ↔ _
    rw [List.mem_append, List.mem_append, mem_row33 (l := l) (k := k + 1)]
    constructor
    · rintro (h | ⟨i, e', h1, h2⟩)
      · exact ⟨0, e, rfl, h⟩
      · exact ⟨i + 1, e', by simpa using h1, by rwa [show k + (i + 1) = k + 1 + i by omega]⟩
    · rintro ⟨i, e', h1, h2⟩
      cases i with
      | zero => simp at h1; subst h1; exact .inl h2
      | succ i => exact .inr ⟨i, e', by simpa using h1, by rwa [show k + 1 + i = k + (i + 1) by omega]⟩
theorem row33_at {a : Int} {l : List (El t80)} {k : Nat} {x : El t82} (h : x ∈ row33 a k l) : pAt x = a := by
  obtain ⟨i, e, _, h⟩ := mem_row33.1 h
  rcases h with h | h
  · rw [(mem_atA.1 h).2]; rfl
  · rw [(mem_atS.1 h).2]; rfl
theorem row33_count (a : Int) (ha : 0 ≤ a) : ∀ (l : List (El t80)) (k : Nat), (row33 a k l).length = (places l).count a
  | [], k => rfl
  | e :: l, k => by
    show ((atA a (Int.ofNat k) e ++ atS a (Int.ofNat k) e) ++ row33 a (k + 1) l).length = (pls e ++ places l).count a
    rw [List.length_append, List.length_append, List.count_append, row33_count a ha l (k + 1)]
    congr 1
    unfold atA atS pls
    rw [eqQ_dec, eqQ_dec, iff_eq, iff_eq]
    by_cases h1 : ac e = a <;> by_cases h2 : sh e = a
    · rw [if_pos (decide_eq_true h1), if_pos (decide_eq_true h2), List.filter_cons_of_pos (by simpa [h1] using ha), List.filter_cons_of_pos (by simpa [h2] using ha), h1, h2]
      simp
      rfl
    · rw [if_pos (decide_eq_true h1), if_neg (by rw [decide_eq_false h2]; decide), List.filter_cons_of_pos (by simpa [h1] using ha), h1]
      by_cases h3 : 0 ≤ sh e
      · rw [List.filter_cons_of_pos (by simpa using h3)]; simp [h2]; rfl
      · rw [List.filter_cons_of_neg (by simpa using h3)]; simp; rfl
    · rw [if_neg (by rw [decide_eq_false h1]; decide), if_pos (decide_eq_true h2)]
      by_cases h3 : 0 ≤ ac e
      · rw [List.filter_cons_of_pos (by simpa using h3), List.filter_cons_of_pos (by simpa [h2] using ha), h2]; simp [h1]; rfl
      · rw [List.filter_cons_of_neg (by simpa using h3), List.filter_cons_of_pos (by simpa [h2] using ha), h2]; simp; rfl
    · rw [if_neg (by rw [decide_eq_false h1]; decide), if_neg (by rw [decide_eq_false h2]; decide)]
      have : ([ac e, sh e].filter fun x => decide (0 ≤ x)).count a = 0 := by
        rw [List.count_eq_zero]
        intro hm
        rcases (mem_pls.1 (show a ∈ pls e from hm)).2 with h | h
        · exact h1 h.symm
        · exact h2 h.symm
      rw [this]; rfl
theorem adj_append : ∀ {r s : List (El t82)}, adj (r ++ s) = false → adj r = false ∧ adj s = false
  | [], s, h => ⟨rfl, h⟩
  | [x], s, h => by
    refine ⟨rfl, ?_⟩
    cases s with
    | nil => rfl
    | cons y s =>
      have h : or (eqQ (pAt x) (pAt y)) (adj (y :: s)) = false := h
      rw [Bool.or_eq_false_iff] at h
      exact h.2
  | x :: y :: r, s, h => by
    have h : or (eqQ (pAt x) (pAt y)) (adj ((y :: r) ++ s)) = false := h
    rw [Bool.or_eq_false_iff] at h
    obtain ⟨h1, h2⟩ := adj_append h.2
    refine ⟨?_, h2⟩
    show or (eqQ (pAt x) (pAt y)) (adj (y :: r)) = false
    rw [h.1, h1]; rfl
theorem adj_one {a : Int} {r : List (El t82)} (h : ∀ x ∈ r, pAt x = a) (hr : adj r = false) : r.length ≤ 1 := by
  match r, h, hr with
  | [], _, _ => exact Nat.zero_le _
  | [x], _, _ => exact Nat.le_refl _
  | x :: y :: r, h, hr =>
    have hr : or (eqQ (pAt x) (pAt y)) (adj (y :: r)) = false := hr
    rw [Bool.or_eq_false_iff, eqQ_dec, decide_eq_false_iff_not] at hr
    exact absurd ((h x (by simp)).trans (h y (by simp)).symm) hr.1
def Up (l : List (El t82)) : Prop := l.Pairwise fun x y => pAt x < pAt y
theorem adj_up : ∀ {r : List (El t82)}, Up r → adj r = false
  | [], _ => rfl
  | [x], _ => rfl
  | x :: y :: r, h => by
    unfold Up at h
    rw [List.pairwise_cons] at h
    show or (eqQ (pAt x) (pAt y)) (adj (y :: r)) = false
    have h1 := h.1 y (by simp)
    rw [adj_up h.2, eqQ_dec, decide_eq_false (by omega)]; rfl
theorem mem_all33 {x : El t82} {l : List (El t80)} : ∀ {bs : List Nat}, x ∈ all33 l bs ↔ ∃ b ∈ bs, x ∈ row33 (Int.ofNat b) 0 l
  | [] => ⟨fun h => (by cases h), fun ⟨b, h, _⟩ => by cases h⟩
  | b :: bs => by
    show x ∈ row33 (Int.ofNat b) 0 l ++ all33 l bs ↔ _
    rw [List.mem_append, mem_all33 (bs := bs)]
    constructor
    · rintro (h | ⟨c, h1, h2⟩)
      · exact ⟨b, List.mem_cons_self .., h⟩
      · exact ⟨c, List.mem_cons_of_mem _ h1, h2⟩
    · rintro ⟨c, h1, h2⟩
      rcases List.mem_cons.1 h1 with rfl | h1
      · exact .inl h2
      · exact .inr ⟨c, h1, h2⟩
theorem all33_up (l : List (El t80)) : ∀ {bs : List Nat}, bs.Pairwise (· < ·) → (∀ b ∈ bs, (row33 (Int.ofNat b) 0 l).length ≤ 1) → Up (all33 l bs)
  | [], _, _ => .nil
  | b :: bs, h, h1 => by
    rw [List.pairwise_cons] at h
    show ((row33 (Int.ofNat b) 0 l) ++ all33 l bs).Pairwise _
    rw [List.pairwise_append]
    refine ⟨?_, all33_up l h.2 fun c hc => h1 c (List.mem_cons_of_mem _ hc), fun x hx y hy => ?_⟩
    · have := h1 b (List.mem_cons_self ..)
      match row33 (Int.ofNat b) 0 l, this with
      | [], _ => exact .nil
      | [x], _ => exact List.pairwise_singleton _ _
      | _ :: _ :: _, h => simp at h
    · obtain ⟨c, hc, hy⟩ := mem_all33.1 hy
      rw [row33_at hx, row33_at hy]
      exact Int.ofNat_lt.2 (h.1 c hc)
theorem adj_rows (l : List (El t80)) : ∀ {bs : List Nat}, adj (all33 l bs) = false → ∀ b ∈ bs, (row33 (Int.ofNat b) 0 l).length ≤ 1
  | [], _, b, h => by cases h
  | c :: bs, h, b, hb => by
    obtain ⟨h1, h2⟩ := adj_append (show adj (row33 (Int.ofNat c) 0 l ++ all33 l bs) = false from h)
    rcases List.mem_cons.1 hb with rfl | hb
    · exact adj_one (fun x hx => row33_at hx) h1
    · exact adj_rows l h2 b hb
theorem nodup_count : ∀ {l : List Int}, l.Nodup ↔ ∀ a ∈ l, l.count a ≤ 1
  | [] => ⟨fun _ a h => (by cases h), fun _ => .nil⟩
  | x :: l => by
    rw [List.nodup_cons, nodup_count (l := l)]
    constructor
    · rintro ⟨h1, h2⟩ a ha
      rw [List.count_cons]
      by_cases hx : x = a
      · subst hx
        rw [List.count_eq_zero.2 h1]; simp
      · have : (x == a) = false := by simpa using hx
        rw [this]
        rcases List.mem_cons.1 ha with h | h
        · exact absurd h.symm hx
        · simpa using h2 a h
    · intro h
      refine ⟨fun hm => ?_, fun a ha => ?_⟩
      · have h1 := h x (List.mem_cons_self ..)
        rw [List.count_cons] at h1
        have h2 := List.count_pos_iff.2 hm
        simp at h1
        omega
      · have h1 := h a (List.mem_cons_of_mem _ ha)
        rw [List.count_cons] at h1
        omega
theorem places_iff {l : List (El t80)} (hv : ∀ e ∈ l, validE e = true) : adj (pts33 l) = false ↔ (places l).Nodup := by
  have hlt := places_lt hv
  constructor
  · intro h
    rw [nodup_count]
    intro a ha
    obtain ⟨h0, h1⟩ := hlt a ha
    obtain ⟨b, rfl⟩ := Int.eq_ofNat_of_zero_le h0
    rw [← row33_count _ h0 l 0]
    exact adj_rows l h b (by rw [List.mem_range']; exact ⟨b, by omega, by omega⟩)
  · intro h
    refine adj_up (all33_up l (by simpa using List.pairwise_lt_range' (s := 0) (n := 120) (step := 1)) fun b _ => ?_)
    rw [row33_count (Int.ofNat b) (Int.natCast_nonneg b) l 0]
    by_cases hm : Int.ofNat b ∈ places l
    · exact nodup_count.1 h _ hm
    · rw [List.count_eq_zero.2 hm]; exact Nat.zero_le _
theorem good_iff (l : List (El t80)) : (any21 l 0 l = false ∧ adj (pts33 l) = false) ↔ Good l := by
  have h1 : any21 l 0 l = false ↔ (∀ e ∈ l, validE e = true) ∧ chainB (-1) l ∧ l.Pairwise Later := by
    rw [any21_iff, chainB_iff, later_iff]
    constructor
    · intro h
      have hb : ∀ (i : Nat) e, l[i]? = some e → validE e = true ∧ prevLe l i e = false ∧ (0 ≤ tk e → ticketed l (tk e) = Int.ofNat i) := fun i e he => by
        have := (bad21_iff l (0 + i) e).1 (h i e he)
        rwa [Nat.zero_add] at this
      have hv : ∀ e ∈ l, validE e = true := fun e he => by
        obtain ⟨i, hi, rfl⟩ := List.getElem_of_mem he
        exact (hb i _ (List.getElem?_eq_getElem hi)).1
      refine ⟨hv, ⟨fun e he => ?_, fun j p e hp he => ?_⟩, fun k e he ht => (hb k e he).2.2 ht⟩
      · have := (valid_facts (hv e (List.mem_of_getElem? he))).1
        omega
      · have := (hb (j + 1) e he).2.1
        rw [prevLe_eq hp, leQ_dec, decide_eq_false_iff_not] at this
        omega
    · rintro ⟨hv, ⟨h1, h2⟩, h3⟩ i e he
      rw [Nat.zero_add, bad21_iff]
      refine ⟨hv e (List.mem_of_getElem? he), ?_, h3 i e he⟩
      cases i with
      | zero => rfl
      | succ j =>
        have hj : j < l.length := by have := (List.getElem?_eq_some_iff.1 he).1; omega
        have hp := List.getElem?_eq_getElem hj
        have := h2 j _ e hp he
        rw [prevLe_eq hp, leQ_dec, decide_eq_false_iff_not]
        omega
  rw [h1]
  constructor
  · rintro ⟨⟨hv, hc, hl⟩, ha⟩
    exact ⟨hv, hc, hl, (places_iff hv).1 ha⟩
  · rintro ⟨hv, hc, hl, hp⟩
    exact ⟨⟨hv, hc, hl⟩, (places_iff hv).2 hp⟩
/-- **both checks are the same** -/
theorem r21_code (n : Nat) (hn : 100000 ≤ n) (l : List (El t80)) : r21 n (l, PUnit.unit) = some (code l, PUnit.unit) := by
  rw [r21_eq n hn l]
  congr 2
  by_cases hl : l.length ≤ 120
  · rw [le_true hl, iff_t rfl]
    have hg := good_iff l
    have hc := code_good hl
    cases ha : any21 l 0 l with
    | true =>
      rw [iff_t rfl, hc.2 fun h => by rw [(hg.2 h).1] at ha; cases ha]; rfl
    | false =>
      rw [iff_f rfl]
      cases hb : adj (pts33 l) with
      | true => rw [iff_t rfl, hc.2 fun h => by rw [(hg.2 h).2] at hb; cases hb]; rfl
      | false => rw [iff_f rfl, hc.1 (hg.1 ⟨ha, hb⟩)]; rfl
  · rw [le_false (by omega), iff_f rfl, code_many (by omega)]; rfl
theorem pts33_up {l : List (El t80)} (h : Good l) : Up (pts33 l) := by
  have hc := (places_iff h.1).2 h.2.2.2
  exact all33_up l (by simpa using List.pairwise_lt_range' (s := 0) (n := 120) (step := 1)) (adj_rows l hc)
end L
end Go.Proofs.Ytlhagmgfffigfaa
