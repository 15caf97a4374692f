/- HistoryReads, plainly: the reference's Tickets. Conditions: at most 120 events are looked at. -/
import Derived.Test.YtlhagmgfffigfaaHi
import Derived.Test.YtlhagmgfffigfaaL15
set_option maxRecDepth 100000
namespace Go.Proofs.Ytlhagmgfffigfaa
open Go Go.Abs
namespace L
theorem inRange_int {y : Int} {n : Nat} (h0 : 0 ≤ y) (h : y.toNat < n) : inRange y n = some y.toNat := by
  obtain ⟨m, rfl⟩ := Int.eq_ofNat_of_zero_le h0
  exact inRange_nat h
theorem upTo_nat {m n : Nat} (h : m ≤ n) : upTo (Int.ofNat m) n = some m := by
  show iff (Nat.ble m n) (some m) none = _
  rw [ble_true h]; rfl
theorem cutL_take {α : Type} (j : Nat) (s : List α) : cutL 0 j s = s.take j := rfl
theorem cutL_drop {α : Type} (j : Nat) (s : List α) : cutL j s.length s = s.drop j := by
  show (s.drop j).take (s.length - j) = _
  rw [List.take_of_length_le (by rw [List.length_drop]; exact Nat.le_refl _)]
/-- where a ticket goes -/
noncomputable def back (l : List (El t80)) (s : List Int) (t : Int) : Nat → Nat
  | 0 => 0
  | b + 1 => @Option.rec Int (fun _ => Nat) (b + 1) (fun y => iff (leQ (keyT l y) t) (b + 1) (back l s t b)) s[b]?
def Within (l : List (El t80)) (s : List Int) : Prop := ∀ y ∈ s, 0 ≤ y ∧ y.toNat < l.length
theorem keyT_in {l : List (El t80)} {y : Int} {e : El t80} (h : l[y.toNat]? = some e) : keyT l y = tk e := by
  unfold keyT
  rw [h]; rfl
abbrev X9 : Type := (List (El t80) × List Int × Int × Int × Unit) × Unit × Unit
theorem loop9 (n : Nat) (l : List (El t80)) (s : List Int) (k : Nat) (e : El t80) (he : l[k]? = some e) (hs : Within l s) (hl : s.length ≤ 1000) : ∀ (a m : Nat), a ≤ s.length → a < m →
    iterF (fun (x : X9) => r15_l9 n (Prod.fst (Prod.fst x)) (Prod.fst (Prod.snd (Prod.fst x))) (Prod.fst (Prod.snd (Prod.snd (Prod.fst x)))) (Prod.fst (Prod.snd (Prod.snd (Prod.snd (Prod.fst x)))))) m ((l, s, Int.ofNat k, Int.ofNat a, PUnit.unit), PUnit.unit, PUnit.unit) =
      some (.inl ((l, s, Int.ofNat k, Int.ofNat (back l s (tk e) a), PUnit.unit), PUnit.unit, PUnit.unit)) := by
  have hlt := (List.getElem?_eq_some_iff.1 he).1
  intro a
  induction a with
  | zero =>
    intro m _ hm
    obtain ⟨m, rfl⟩ : ∃ q, m = q + 1 := ⟨m - 1, by omega⟩
    refine iterF_inr ?_
    show r15_l9 n l s (Int.ofNat k) (Int.ofNat 0) = _
    unfold r15_l9
    exact iff_nt (le_true (Nat.le_refl _))
  | succ b ih =>
    intro m ha hm
    obtain ⟨m, rfl⟩ : ∃ q, m = q + 1 := ⟨m - 1, by omega⟩
    have hb : b < s.length := ha
    have hy := List.getElem?_eq_getElem hb
    obtain ⟨h0, h1⟩ := hs s[b] (List.getElem_mem hb)
    obtain ⟨e', he'⟩ : ∃ e', l[(s[b]).toNat]? = some e' := ⟨_, List.getElem?_eq_getElem h1⟩
    have hk : keyT l s[b] = tk e' := keyT_in he'
    have hbody : r15_l9 n l s (Int.ofNat k) (Int.ofNat (b + 1)) = some (iff (leQ (keyT l s[b]) (tk e)) (.inr (.inl ((l, s, Int.ofNat k, Int.ofNat (b + 1), PUnit.unit), PUnit.unit, PUnit.unit))) (.inl ((l, s, Int.ofNat k, Int.ofNat b, PUnit.unit), PUnit.unit, PUnit.unit))) := by
      unfold r15_l9
      refine (iff_nf (le_false (Nat.succ_pos b))).trans ?_
      rw [wrap_pred (by omega)]
      refine (andThen_of (inRange_nat hb)).trans ((andThen_of (nthQ_some hy)).trans ((andThen_of (inRange_int h0 h1)).trans ((andThen_of (nthQ_some he')).trans ((andThen_of (inRange_nat hlt)).trans ((andThen_of (nthQ_some he)).trans ?_)))))
      rw [hk]
      show iff (!leQ (tk e') (tk e)) _ _ = _
      cases leQ (tk e') (tk e) <;> rfl
    have hback : back l s (tk e) (b + 1) = iff (leQ (keyT l s[b]) (tk e)) (b + 1) (back l s (tk e) b) := by
      show @Option.rec Int (fun _ => Nat) (b + 1) (fun y => iff (leQ (keyT l y) (tk e)) (b + 1) (back l s (tk e) b)) s[b]? = _
      rw [hy]
    rw [hback]
    cases hc : leQ (keyT l s[b]) (tk e) with
    | true =>
      rw [hc] at hbody
      exact iterF_inr hbody
    | false =>
      rw [hc] at hbody
      exact (iterF_inl hbody).trans (ih m (by omega) (by omega))
/-- with a number more -/
noncomputable def insT (l : List (El t80)) (s : List Int) (k : Int) (t : Int) : List Int := s.take (back l s t s.length) ++ k :: s.drop (back l s t s.length)
theorem back_le (l : List (El t80)) (s : List Int) (t : Int) : ∀ a, back l s t a ≤ a
  | 0 => Nat.le_refl _
  | b + 1 => by
    show @Option.rec Int (fun _ => Nat) (b + 1) (fun y => iff (leQ (keyT l y) t) (b + 1) (back l s t b)) s[b]? ≤ _
    cases s[b]? with
    | none => exact Nat.le_refl _
    | some y =>
      show iff (leQ (keyT l y) t) (b + 1) (back l s t b) ≤ _
      have := back_le l s t b
      cases leQ (keyT l y) t
      · show back l s t b ≤ b + 1; omega
      · exact Nat.le_refl _
theorem r15_j11_eq (n : Nat) (l : List (El t80)) (s : List Int) (k : Int) (p : Nat) (hp : p ≤ s.length) (hl : s.length ≤ 1000) :
    r15_j11 n l s k (Int.ofNat p) = some (.inl ((l, s.take p ++ k :: s.drop p, k, PUnit.unit), PUnit.unit, PUnit.unit)) := by
  unfold r15_j11
  have h1 : (cutL 0 p s).length = p := by rw [cutL_take, List.length_take, Nat.min_eq_left hp]
  have h2 : (cutL p s.length s).length = s.length - p := by rw [cutL_drop, List.length_drop]
  have h3 : (appE t3 (cutL 0 p s) [k]).length = p + 1 := by
    show (cutL 0 p s ++ [k]).length = _
    rw [List.length_append, h1]; rfl
  have h4 : (appE t3 (cutL 0 p s) (k :: cutL p s.length s)).length = p + 1 + (s.length - p) := by
    show (cutL 0 p s ++ k :: cutL p s.length s).length = _
    rw [List.length_append, h1, List.length_cons, h2]; omega
  refine (andThen_of (upTo_nat hp)).trans ?_
  cases hz1 : isZ (cutL 0 p s).length with
  | true =>
    rw [isZ_eq, decide_eq_true_eq] at hz1
    have ht : s.take p = [] := List.eq_nil_of_length_eq_zero hz1
    refine (iff_t rfl).trans ((andThen_of (upTo_nat hp)).trans ?_)
    cases hz2 : isZ (cutL p s.length s).length with
    | true =>
      rw [isZ_eq, decide_eq_true_eq, cutL_drop] at hz2
      have hd : s.drop p = [] := List.eq_nil_of_length_eq_zero hz2
      rw [ht, hd]; rfl
    | false =>
      refine (iff_f rfl).trans ((iff_t ?_).trans ((iff_t ?_).trans ?_))
      · rw [addN_eq, h2, ble_true (show Nat.mul (1 + (s.length - p)) 9 ≤ 1000000000 by show (1 + (s.length - p)) * 9 ≤ _; omega)]; rfl
      · rw [addN_eq, List.length_cons, Nat.add_comm]; exact natBeq_self _
      · rw [ht, cutL_drop]; rfl
  | false =>
    refine (iff_f rfl).trans ((iff_t ?_).trans ((iff_t ?_).trans ((iff_t ?_).trans ((andThen_of (upTo_nat hp)).trans ((iff_t ?_).trans ?_)))))
    · rw [addN_eq, h1, ble_true (show Nat.mul (0 + p) 9 ≤ 1000000000 by show (0 + p) * 9 ≤ _; omega)]; rfl
    · rw [addN_eq, h1, Nat.zero_add]
      show Nat.beq (p * 1 + 0) (p * 1) = true
      rw [Nat.add_zero]; exact natBeq_self _
    · rw [addN_eq, addN_eq, h1, ble_true (show Nat.mul (0 + p + 1) 9 ≤ 1000000000 by show (0 + p + 1) * 9 ≤ _; omega)]; rfl
    · rw [addN_eq, addN_eq, h1, Nat.zero_add]
      show Nat.beq (p * 1 + (1 + 0)) ((p + 1) * 1) = true
      rw [show p * 1 + (1 + 0) = (p + 1) * 1 by omega]; exact natBeq_self _
    · cases hz2 : isZ (cutL p s.length s).length with
      | true =>
        rw [isZ_eq, decide_eq_true_eq, cutL_drop] at hz2
        have hd : s.drop p = [] := List.eq_nil_of_length_eq_zero hz2
        refine (iff_t rfl).trans ((iff_t ?_).trans ?_)
        · rw [addN_eq, addN_eq, h1, h3, Nat.zero_add]; exact natBeq_self _
        · rw [hd]; rfl
      | false =>
        refine (iff_f rfl).trans ((iff_t ?_).trans ((iff_t ?_).trans ?_))
        · rw [addN_eq, addN_eq, addN_eq, h1, h2, ble_true (show Nat.mul (0 + p + 1 + (s.length - p)) 9 ≤ 1000000000 by show (0 + p + 1 + (s.length - p)) * 9 ≤ _; omega)]; rfl
        · rw [addN_eq, addN_eq, addN_eq, h1, h2, h4, Nat.zero_add]; exact natBeq_self _
        · have h5 : (s.drop p).take (s.length - p) = s.drop p := List.take_of_length_le (by rw [List.length_drop]; exact Nat.le_refl _)
          show some (Sum.inl ((l, s.take p ++ k :: (s.drop p).take (s.length - p), k, PUnit.unit), PUnit.unit, PUnit.unit)) = _
          rw [h5]
/-- all of them, put in one by one -/
noncomputable def insA (l : List (El t80)) : Nat → List (El t80) → List Int → List Int
  | _, [], s => s
  | k, e :: r, s => insA l (k + 1) r (iff (leQ (Int.ofNat 0) (tk e)) (insT l s (Int.ofNat k) (tk e)) s)
theorem insT_len (l : List (El t80)) (s : List Int) (k t : Int) : (insT l s k t).length = s.length + 1 := by
  unfold insT
  have := back_le l s t s.length
  rw [List.length_append, List.length_take, List.length_cons, List.length_drop]
  omega
theorem mem_insT {l : List (El t80)} {s : List Int} {k t x : Int} : x ∈ insT l s k t ↔ x = k ∨ x ∈ s := by
  unfold insT
  rw [List.mem_append, List.mem_cons]
  have h := List.take_append_drop (back l s t s.length) s
  constructor
  · rintro (h1 | h1 | h1)
    · exact .inr (List.mem_of_mem_take h1)
    · exact .inl h1
    · exact .inr (List.mem_of_mem_drop h1)
  · rintro (h1 | h1)
    · exact .inr (.inl h1)
    · rw [← h, List.mem_append] at h1
      rcases h1 with h1 | h1
      · exact .inl h1
      · exact .inr (.inr h1)
abbrev X15 : Type := (List (El t80) × List Int × Int × Unit) × Unit × Unit
theorem loop5 (n : Nat) (hn : 2000 ≤ n) (l : List (El t80)) (hl : l.length ≤ 200) : ∀ (r : List (El t80)) (k m : Nat) (s : List Int), l.drop k = r → k + r.length = l.length → s.length ≤ k → Within l s → r.length < m →
    iterF (fun (x : X15) => r15_l5 n (Prod.fst (Prod.fst x)) (Prod.fst (Prod.snd (Prod.fst x))) (Prod.fst (Prod.snd (Prod.snd (Prod.fst x))))) m ((l, s, Int.ofNat k, PUnit.unit), PUnit.unit, PUnit.unit) =
      some (.inl ((insA l k r s, PUnit.unit), PUnit.unit, PUnit.unit)) := by
  intro r
  induction r with
  | nil =>
    intro k m s _ hk _ _ hm
    have hk : k = l.length := by simpa using hk
    subst hk
    obtain ⟨m, rfl⟩ : ∃ q, m = q + 1 := ⟨m - 1, by simp at hm; omega⟩
    refine iterF_inr ?_
    show r15_l5 n l s (Int.ofNat l.length) = _
    unfold r15_l5
    exact iff_nt (le_true (Nat.le_refl _))
  | cons e r ih =>
    intro k m s hd hk hsl hs hm
    have he : l[k]? = some e := by
      have : (l.drop k)[0]? = some e := by rw [hd]; rfl
      rwa [List.getElem?_drop, Nat.add_zero] at this
    have hlt := (List.getElem?_eq_some_iff.1 he).1
    rw [List.length_cons] at hk hm
    obtain ⟨m, rfl⟩ : ∃ q, m = q + 1 := ⟨m - 1, by omega⟩
    have hbody : r15_l5 n l s (Int.ofNat k) = some (.inl ((l, iff (leQ (Int.ofNat 0) (tk e)) (insT l s (Int.ofNat k) (tk e)) s, Int.ofNat (k + 1), PUnit.unit), PUnit.unit, PUnit.unit)) := by
      unfold r15_l5
      refine (iff_nf (le_false hlt)).trans ?_
      refine (andThen_of (a := Sum.inl ((l, iff (leQ (Int.ofNat 0) (tk e)) (insT l s (Int.ofNat k) (tk e)) s, Int.ofNat k, PUnit.unit), PUnit.unit, PUnit.unit)) ?_).trans ?_
      · refine (andThen_of (inRange_nat hlt)).trans ((andThen_of (nthQ_some he)).trans ?_)
        show iff (!leQ (Int.ofNat 0) (tk e)) _ _ = _
        cases leQ (Int.ofNat 0) (tk e) with
        | false => rfl
        | true =>
          refine (iff_f rfl).trans ((andThen_of (loop9 n l s k e he hs (by omega) s.length n (Nat.le_refl _) (by omega))).trans ?_)
          show r15_j11 n l s (Int.ofNat k) (Int.ofNat (back l s (tk e) s.length)) = _
          rw [r15_j11_eq n l s (Int.ofNat k) _ (back_le l s (tk e) s.length) (by omega)]
          rfl
      · show some _ = some _
        rw [wrap_succ (by omega)]
    refine (iterF_inl hbody).trans ?_
    refine ih (k + 1) m _ (by rw [← List.drop_drop, hd]; rfl) (by omega) ?_ ?_ (by omega)
    · cases leQ (Int.ofNat 0) (tk e) with
      | false => show s.length ≤ k + 1; omega
      | true => show (insT l s (Int.ofNat k) (tk e)).length ≤ k + 1; rw [insT_len]; omega
    · cases leQ (Int.ofNat 0) (tk e) with
      | false => exact hs
      | true =>
        intro y hy
        rcases mem_insT.1 (show y ∈ insT l s (Int.ofNat k) (tk e) from hy) with rfl | hy
        · exact ⟨Int.natCast_nonneg _, hlt⟩
        · exact hs y hy
/-! ### what is put in is in order -/
def UpT (l : List (El t80)) (s : List Int) : Prop := s.Pairwise fun x y => keyT l x < keyT l y
theorem back_hi (l : List (El t80)) (s : List Int) (t : Int) : ∀ (a : Nat), ∀ j, back l s t a ≤ j → j < a → ∀ y, s[j]? = some y → t < keyT l y
  | 0, j, _, h, _, _ => by omega
  | b + 1, j, h, hj, y, hy => by
    have hb : back l s t (b + 1) = @Option.rec Int (fun _ => Nat) (b + 1) (fun y => iff (leQ (keyT l y) t) (b + 1) (back l s t b)) s[b]? := rfl
    rw [hb] at h
    cases hs : s[b]? with
    | none => rw [hs] at h; exact absurd hj (by show ¬ j < b + 1; exact Nat.not_lt.2 h)
    | some z =>
      rw [hs] at h
      have h : iff (leQ (keyT l z) t) (b + 1) (back l s t b) ≤ j := h
      cases hc : leQ (keyT l z) t with
      | true => rw [hc] at h; exact absurd hj (Nat.not_lt.2 h)
      | false =>
        rw [hc] at h
        rw [leQ_dec, decide_eq_false_iff_not] at hc
        by_cases hjb : j = b
        · subst hjb
          rw [hs] at hy
          cases hy
          omega
        · exact back_hi l s t b j h (by omega) y hy
theorem back_lo (l : List (El t80)) (s : List Int) (t : Int) : ∀ (a : Nat), a ≤ s.length → ∀ j, j + 1 = back l s t a → ∀ y, s[j]? = some y → keyT l y ≤ t
  | 0, _, j, h, _, _ => by have : back l s t 0 = 0 := rfl; omega
  | b + 1, ha, j, h, y, hy => by
    have hb : back l s t (b + 1) = @Option.rec Int (fun _ => Nat) (b + 1) (fun y => iff (leQ (keyT l y) t) (b + 1) (back l s t b)) s[b]? := rfl
    rw [hb] at h
    have hs := List.getElem?_eq_getElem (show b < s.length from ha)
    rw [hs] at h
    have h : j + 1 = iff (leQ (keyT l s[b]) t) (b + 1) (back l s t b) := h
    cases hc : leQ (keyT l s[b]) t with
    | true =>
      rw [hc] at h
      have : j = b := by have : j + 1 = b + 1 := h; omega
      subst this
      rw [hs] at hy
      cases hy
      rw [leQ_dec, decide_eq_true_eq] at hc
      exact hc
    | false =>
      rw [hc] at h
      exact back_lo l s t b (by omega) j h y hy
theorem insT_up {l : List (El t80)} {s : List Int} {k t : Int} (hs : UpT l s) (hk : keyT l k = t) (hd : ∀ y ∈ s, keyT l y ≠ t) : UpT l (insT l s k t) := by
  have hle := back_le l s t s.length
  have hhi := back_hi l s t s.length
  have hlo := back_lo l s t s.length (Nat.le_refl _)
  unfold insT UpT
  generalize back l s t s.length = p at hle hhi hlo
  have h1 : ∀ x ∈ s.take p, keyT l x < t := fun x hx => by
    obtain ⟨j, hj, rfl⟩ := List.getElem_of_mem hx
    rw [List.length_take] at hj
    rw [List.getElem_take]
    have hj' : j < s.length := by omega
    have h0 := hd s[j] (List.getElem_mem hj')
    by_cases hjp : j + 1 = p
    · have := hlo j hjp s[j] (List.getElem?_eq_getElem hj')
      omega
    · have hp1 : p - 1 < s.length := by omega
      have h2 := hlo (p - 1) (by omega) s[p - 1] (List.getElem?_eq_getElem hp1)
      have h3 := (List.pairwise_iff_getElem.1 hs) j (p - 1) hj' hp1 (by omega)
      omega
  have h2 : ∀ x ∈ s.drop p, t < keyT l x := fun x hx => by
    obtain ⟨j, hj, rfl⟩ := List.getElem_of_mem hx
    rw [List.length_drop] at hj
    rw [List.getElem_drop]
    have hj' : p + j < s.length := by omega
    exact hhi (p + j) (by omega) hj' s[p + j] (List.getElem?_eq_getElem hj')
  rw [List.pairwise_append, List.pairwise_cons]
  refine ⟨hs.sublist (List.take_sublist _ _), ⟨fun x hx => by rw [hk]; exact h2 x hx, hs.sublist (List.drop_sublist _ _)⟩, fun x hx y hy => ?_⟩
  rcases List.mem_cons.1 hy with rfl | hy
  · rw [hk]; exact h1 x hx
  · have := h1 x hx; have := h2 y hy; omega
theorem insA_props {l : List (El t80)} (hl : l.Pairwise Later) : ∀ (r : List (El t80)) (k : Nat) (s : List Int), l.drop k = r → UpT l s → (∀ y ∈ s, ∃ i : Nat, i < k ∧ y = Int.ofNat i ∧ i < l.length) → UpT l (insA l k r s) ∧ ∀ x, x ∈ insA l k r s ↔ x ∈ s ∨ x ∈ trow k r
  | [], k, s, _, hs, _ => ⟨hs, fun x => ⟨.inl, fun h => h.resolve_right fun h => (by cases h)⟩⟩
  | e :: r, k, s, hd, hs, hin => by
    have he : l[k]? = some e := by
      have : (l.drop k)[0]? = some e := by rw [hd]; rfl
      rwa [List.getElem?_drop, Nat.add_zero] at this
    obtain ⟨hk1, hk2⟩ := List.getElem?_eq_some_iff.1 he
    have hd' : l.drop (k + 1) = r := by rw [← List.drop_drop, hd]; rfl
    show UpT l (insA l (k + 1) r (iff (leQ (Int.ofNat 0) (tk e)) (insT l s (Int.ofNat k) (tk e)) s)) ∧ ∀ x, x ∈ insA l (k + 1) r (iff (leQ (Int.ofNat 0) (tk e)) (insT l s (Int.ofNat k) (tk e)) s) ↔ x ∈ s ∨ x ∈ tr1 (Int.ofNat k) e ++ trow (k + 1) r
    have h0 := le0 (tk e)
    unfold tr1
    cases hc : leQ (Int.ofNat 0) (tk e) with
    | false =>
      obtain ⟨h1, h2⟩ := insA_props hl r (k + 1) s hd' hs fun y hy => by
        obtain ⟨i, h1, h2, h3⟩ := hin y hy
        exact ⟨i, by omega, h2, h3⟩
      refine ⟨h1, fun x => (h2 x).trans ?_⟩
      show _ ↔ x ∈ s ∨ x ∈ [] ++ trow (k + 1) r
      rw [List.nil_append]
    | true =>
      rw [hc] at h0
      have ht := h0.1 rfl
      have hup : UpT l (insT l s (Int.ofNat k) (tk e)) := insT_up hs (keyT_at he) fun y hy => by
        obtain ⟨i, h1, rfl, h3⟩ := hin y hy
        have h4 := List.getElem?_eq_getElem h3
        rw [keyT_at h4]
        have h5 := (List.pairwise_iff_getElem.1 hl) i k h3 hk1 h1
        rw [hk2] at h5
        exact fun e1 => h5 ht e1.symm
      obtain ⟨h1, h2⟩ := insA_props hl r (k + 1) (insT l s (Int.ofNat k) (tk e)) hd' hup fun y hy => by
        rcases mem_insT.1 hy with rfl | hy
        · exact ⟨k, Nat.lt_succ_self k, rfl, hk1⟩
        · obtain ⟨i, h1, h2, h3⟩ := hin y hy
          exact ⟨i, by omega, h2, h3⟩
      refine ⟨h1, fun x => (h2 x).trans ?_⟩
      show _ ↔ x ∈ s ∨ x ∈ [Int.ofNat k] ++ trow (k + 1) r
      rw [mem_insT, List.mem_append, List.mem_singleton]
      constructor
      · rintro ((h | h) | h)
        · exact .inr (.inl h)
        · exact .inl h
        · exact .inr (.inr h)
      · rintro (h | h | h)
        · exact .inl (.inr h)
        · exact .inl (.inl h)
        · exact .inr h
theorem tick_same {l : List (El t80)} (h : Good l) : insA l 0 l [] = byT l (trow 0 l) := by
  obtain ⟨h1, h2⟩ := insA_props h.2.2.1 l 0 [] rfl .nil fun y hy => (by cases hy)
  refine up_unique (keyT l) h1 (sorted_up (keyT l) (trow_keys h.2.2.1)) fun x => ?_
  have h3 : x ∈ byT l (trow 0 l) ↔ x ∈ trow 0 l := (List.mergeSort_perm (trow 0 l) _).mem_iff
  show x ∈ insA l 0 l [] ↔ x ∈ byT l (trow 0 l)
  rw [h2, h3]
  exact ⟨fun h => h.resolve_left fun h => (by cases h), .inr⟩
theorem r15_tickets (n : Nat) (hn : 100000 ≤ n) (l : List (El t80)) : r15 n (l, PUnit.unit) = some (tickets l) := by
  show r15c n l = _
  unfold r15c tickets
  refine (andThen_of (r21_code n hn l)).trans ?_
  show iff (!eqQ (code l) (Int.ofNat 0)) _ _ = _
  by_cases hc : code l = 0
  · rw [if_pos hc, eq0, decide_eq_true hc]
    obtain ⟨h1, h2⟩ := code_zero hc
    refine (iff_f rfl).trans ((andThen_of (loop5 n (by omega) l (by omega) l 0 n [] rfl (by omega) (Nat.le_refl _) (fun y hy => by cases hy) (by omega))).trans ?_)
    show some (insA l 0 l [], Int.ofNat 0, PUnit.unit) = _
    rw [tick_same h2]
  · rw [if_neg hc, eq0, decide_eq_false hc]
    exact (iff_t rfl).trans ((andThen_of (r21_code n hn l)).trans rfl)
end L
end Go.Proofs.Ytlhagmgfffigfaa
