/- HistoryReads, plainly: Open and Before, by the program and by the reference. Conditions: at most 120 events are looked at. -/
import Derived.Test.YtlhagmgfffigfaaHj
import Derived.Test.YtlhagmgfffigfaaL16
import Derived.Test.YtlhagmgfffigfaaL17
import Derived.Test.YtlhagmgfffigfaaL18
import Derived.Test.YtlhagmgfffigfaaL19
set_option maxRecDepth 100000
namespace Go.Proofs.Ytlhagmgfffigfaa
open Go Go.Abs
namespace L
/-- the number of an event of a kind -/
noncomputable def or1 (p : El t80 → Bool) (k : Int) (e : El t80) : List Int := iff (p e) [k] []
theorem or1_len (p : El t80 → Bool) (k : Int) (e : El t80) : (or1 p k e).length ≤ 1 := by
  unfold or1
  cases p e
  · exact Nat.zero_le _
  · exact Nat.le_refl _
noncomputable def orow (p : El t80 → Bool) : Nat → List (El t80) → List Int
  | _, [] => []
  | k, e :: l => or1 p (Int.ofNat k) e ++ orow p (k + 1) l
noncomputable def notDone (e : El t80) : Bool := eqQ (dn e) (Int.negSucc 0)
noncomputable def notDoneR (e : El t80) : Bool := !leQ (Int.ofNat 0) (dn e)
abbrev X16 : Type := (Unit × List (El t80) × Int × Int × Unit) × (Option (List Int) × Unit) × Unit
theorem r16_in (n : Nat) (l : List (El t80)) (hl : l.length ≤ 1000) : ∀ (r : List (El t80)) (k m : Nat) (o : Option (List Int)), l.drop k = r → k + r.length = l.length → (rowsO o).length + 2 * r.length ≤ 900000 → r.length < m →
    iterF (fun (x : X16) => r16_l6 n (Prod.fst (Prod.snd (Prod.fst x))) (Prod.fst (Prod.snd (Prod.snd (Prod.fst x)))) (Prod.fst (Prod.snd (Prod.snd (Prod.snd (Prod.fst x))))) (Prod.fst (Prod.fst (Prod.snd x)))) m ((PUnit.unit, l, Int.ofNat l.length, Int.ofNat k, PUnit.unit), (o, PUnit.unit), PUnit.unit) =
      some (.inl ((PUnit.unit, PUnit.unit), (ups o (orow notDone k r), PUnit.unit), PUnit.unit)) := by
  intro r
  induction r with
  | nil =>
    intro k m o _ hk _ hm
    have hk : k = l.length := by simpa using hk
    subst hk
    obtain ⟨m, rfl⟩ : ∃ q, m = q + 1 := ⟨m - 1, by simp at hm; omega⟩
    refine iterF_inr ?_
    show r16_l6 n l (Int.ofNat l.length) (Int.ofNat l.length) o = _
    unfold r16_l6
    refine (iff_nt (le_true (Nat.le_refl _))).trans ?_
    unfold ups orow
    cases o <;> simp [noO, rowsO, eqBl_self, iff_eq, andThen]
  | cons e r ih =>
    intro k m o hd hk ho hm
    have he : l[k]? = some e := by
      have : (l.drop k)[0]? = some e := by rw [hd]; rfl
      rwa [List.getElem?_drop, Nat.add_zero] at this
    have hlt := (List.getElem?_eq_some_iff.1 he).1
    rw [List.length_cons] at ho hk hm
    obtain ⟨m, rfl⟩ : ∃ q, m = q + 1 := ⟨m - 1, by omega⟩
    have hbody : r16_l6 n l (Int.ofNat l.length) (Int.ofNat k) o = some (.inl ((PUnit.unit, l, Int.ofNat l.length, Int.ofNat (k + 1), PUnit.unit), (ups o (or1 notDone (Int.ofNat k) e), PUnit.unit), PUnit.unit)) := by
      unfold r16_l6
      refine (iff_nf (le_false hlt)).trans ?_
      refine (andThen_of (a := Sum.inl ((PUnit.unit, l, Int.ofNat l.length, Int.ofNat k, PUnit.unit), (ups o (or1 notDone (Int.ofNat k) e), PUnit.unit), PUnit.unit)) ?_).trans ?_
      · refine (andThen_of (inRange_nat hlt)).trans ((andThen_of (nthQ_some he)).trans ?_)
        unfold or1 ups notDone dn
        cases hc : eqQ e.2.2.2.2.2.2.2.2.2.2.1 (Int.negSucc 0) with
        | true =>
          rw [iff_t rfl, iff_t rfl]
          exact grow_o (t := t3) 1 9 o (Int.ofNat k) (fun q => some (Sum.inl ((PUnit.unit, l, Int.ofNat l.length, Int.ofNat k, PUnit.unit), (q, PUnit.unit), PUnit.unit))) (by show ((rowsO o).length + 1) * 9 ≤ _; omega)
        | false =>
          rw [iff_f rfl, iff_f rfl]
          exact keep_z 1 o (fun q => some (Sum.inl ((PUnit.unit, l, Int.ofNat l.length, Int.ofNat k, PUnit.unit), (q, PUnit.unit), PUnit.unit)))
      · show r16_j10 n l (Int.ofNat l.length) (Int.ofNat k) (ups o (or1 notDone (Int.ofNat k) e)) = _
        unfold r16_j10
        have hw : wrapQ .i64 (Int.add (Int.ofNat k) (Int.ofNat 1)) = Int.ofNat (k + 1) := wrap_succ (by omega)
        rw [hw]
        exact keep_z 1 _ (fun q => some (Sum.inl ((PUnit.unit, l, Int.ofNat l.length, Int.ofNat (k + 1), PUnit.unit), (q, PUnit.unit), PUnit.unit)))
    refine (iterF_inl hbody).trans ?_
    have h1 := or1_len notDone (Int.ofNat k) e
    refine (ih (k + 1) m _ (by rw [← List.drop_drop, hd]; rfl) (by omega) (by rw [rows_ups, List.length_append]; omega) (by omega)).trans ?_
    rw [ups_ups]
    rfl
abbrev X17 : Type := (List (El t80) × Unit × Int × Unit) × (Option (List Int) × Unit) × Unit
theorem r17_in (n : Nat) (l : List (El t80)) (hl : l.length ≤ 1000) : ∀ (r : List (El t80)) (k m : Nat) (o : Option (List Int)), l.drop k = r → k + r.length = l.length → (rowsO o).length + 2 * r.length ≤ 900000 → r.length < m →
    iterF (fun (x : X17) => r17_l5 n (Prod.fst (Prod.fst x)) (Prod.fst (Prod.snd (Prod.snd (Prod.fst x)))) (Prod.fst (Prod.fst (Prod.snd x)))) m ((l, PUnit.unit, Int.ofNat k, PUnit.unit), (o, PUnit.unit), PUnit.unit) =
      some (.inl ((PUnit.unit, PUnit.unit), (ups o (orow notDoneR k r), PUnit.unit), PUnit.unit)) := by
  intro r
  induction r with
  | nil =>
    intro k m o _ hk _ hm
    have hk : k = l.length := by simpa using hk
    subst hk
    obtain ⟨m, rfl⟩ : ∃ q, m = q + 1 := ⟨m - 1, by simp at hm; omega⟩
    refine iterF_inr ?_
    show r17_l5 n l (Int.ofNat l.length) o = _
    unfold r17_l5
    refine (iff_nt (le_true (Nat.le_refl _))).trans ?_
    unfold ups orow
    cases o <;> simp [noO, rowsO, eqBl_self, iff_eq, andThen]
  | cons e r ih =>
    intro k m o hd hk ho hm
    have he : l[k]? = some e := by
      have : (l.drop k)[0]? = some e := by rw [hd]; rfl
      rwa [List.getElem?_drop, Nat.add_zero] at this
    have hlt := (List.getElem?_eq_some_iff.1 he).1
    rw [List.length_cons] at ho hk hm
    obtain ⟨m, rfl⟩ : ∃ q, m = q + 1 := ⟨m - 1, by omega⟩
    have hbody : r17_l5 n l (Int.ofNat k) o = some (.inl ((l, PUnit.unit, Int.ofNat (k + 1), PUnit.unit), (ups o (or1 notDoneR (Int.ofNat k) e), PUnit.unit), PUnit.unit)) := by
      unfold r17_l5
      refine (iff_nf (le_false hlt)).trans ?_
      refine (andThen_of (a := Sum.inl ((l, PUnit.unit, Int.ofNat k, PUnit.unit), (ups o (or1 notDoneR (Int.ofNat k) e), PUnit.unit), PUnit.unit)) ?_).trans ?_
      · refine (andThen_of (inRange_nat hlt)).trans ((andThen_of (nthQ_some he)).trans ?_)
        unfold or1 ups notDoneR dn
        cases hc : leQ (Int.ofNat 0) e.2.2.2.2.2.2.2.2.2.2.1 with
        | false =>
          rw [iff_nf rfl, iff_nf rfl]
          exact grow_o (t := t3) 1 9 o (Int.ofNat k) (fun q => some (Sum.inl ((l, PUnit.unit, Int.ofNat k, PUnit.unit), (q, PUnit.unit), PUnit.unit))) (by show ((rowsO o).length + 1) * 9 ≤ _; omega)
        | true =>
          rw [iff_nt rfl, iff_nt rfl]
          exact keep_z 1 o (fun q => some (Sum.inl ((l, PUnit.unit, Int.ofNat k, PUnit.unit), (q, PUnit.unit), PUnit.unit)))
      · show r17_j6 n l (Int.ofNat k) (ups o (or1 notDoneR (Int.ofNat k) e)) = _
        unfold r17_j6
        have hw : wrapQ .i64 (Int.add (Int.ofNat k) (Int.ofNat 1)) = Int.ofNat (k + 1) := wrap_succ (by omega)
        rw [hw]
        exact keep_z 1 _ (fun q => some (Sum.inl ((l, PUnit.unit, Int.ofNat (k + 1), PUnit.unit), (q, PUnit.unit), PUnit.unit)))
    refine (iterF_inl hbody).trans ?_
    have h1 := or1_len notDoneR (Int.ofNat k) e
    refine (ih (k + 1) m _ (by rw [← List.drop_drop, hd]; rfl) (by omega) (by rw [rows_ups, List.length_append]; omega) (by omega)).trans ?_
    rw [ups_ups]
    rfl
theorem orow_len (p : El t80 → Bool) : ∀ (l : List (El t80)) (k : Nat), (orow p k l).length ≤ l.length
  | [], _ => Nat.le_refl _
  | e :: l, k => by
    have := orow_len p l (k + 1)
    have h1 := or1_len p (Int.ofNat k) e
    show (or1 p (Int.ofNat k) e ++ orow p (k + 1) l).length ≤ _
    rw [List.length_append, List.length_cons]
    omega
theorem done_facts {e : El t80} (h : validE e = true) : Pt (dn e) (bg e) := by
  unfold validE vB at h
  simp only [Bool.and_eq_true, Bool.not_eq_true'] at h
  obtain ⟨_, _, _, _, _, h5, _⟩ := h
  exact (ptB_iff _ _).1 h5
theorem orow_same : ∀ (l : List (El t80)) (k : Nat), (∀ e ∈ l, validE e = true) → orow notDoneR k l = orow notDone k l
  | [], _, _ => rfl
  | e :: l, k, h => by
    show or1 notDoneR (Int.ofNat k) e ++ orow notDoneR (k + 1) l = or1 notDone (Int.ofNat k) e ++ orow notDone (k + 1) l
    rw [orow_same l (k + 1) fun x hx => h x (List.mem_cons_of_mem _ hx)]
    have hv := h e (List.mem_cons_self ..)
    have h1 := done_facts hv
    have h2 := (valid_facts hv).1
    have : notDoneR e = notDone e := by
      unfold notDoneR notDone
      rw [leQ_dec, eqQ_dec]
      have : (¬ (0 : Int) ≤ dn e) ↔ dn e = -1 := by rcases h1 with h1 | h1 <;> omega
      by_cases h3 : dn e = -1
      · rw [decide_eq_false (show ¬ Int.ofNat 0 ≤ dn e from this.2 h3), decide_eq_true (show dn e = Int.negSucc 0 from h3)]; rfl
      · rw [decide_eq_true (show Int.ofNat 0 ≤ dn e by show (0 : Int) ≤ dn e; omega), decide_eq_false (show ¬ dn e = Int.negSucc 0 from h3)]; rfl
    unfold or1
    rw [this]
/-- what both say -/
noncomputable def opens (l : List (El t80)) : List Int × Int × Unit := if code l = 0 then (orow notDone 0 l, Int.ofNat 0, PUnit.unit) else ([], code l, PUnit.unit)
theorem r16_j11_eq (n : Nat) (o : Option (List Int)) : r16_j11 n o = some (rowsO o, Int.ofNat 0, PUnit.unit) := by
  unfold r16_j11
  cases o <;> simp [noO, rowsO, eqBl_self, iff_eq]
theorem r17_j9_eq (n : Nat) (o : Option (List Int)) : r17_j9 n o = some (rowsO o, Int.ofNat 0, PUnit.unit) := by
  unfold r17_j9
  cases o <;> simp [noO, rowsO, eqBl_self, iff_eq]
theorem r16_opens (n : Nat) (hn : 2000 ≤ n) (l : List (El t80)) : r16 n (l, PUnit.unit) = some (opens l) := by
  show r16c n l = _
  unfold r16c opens
  refine (andThen_of (r20_eq n (by omega) l)).trans ?_
  show iff (!eqQ (code l) (Int.ofNat 0)) _ _ = _
  by_cases hc : code l = 0
  · rw [if_pos hc, eq0, decide_eq_true hc]
    obtain ⟨h1, _⟩ := code_zero hc
    refine (iff_f rfl).trans ((andThen_of (r16_in n l (by omega) l 0 n none rfl (by omega) (by show 0 + _ ≤ _; omega) (by omega))).trans ?_)
    show r16_j11 n (ups none (orow notDone 0 l)) = _
    rw [r16_j11_eq, rows_ups]; rfl
  · rw [if_neg hc, eq0, decide_eq_false hc]
    rfl
theorem r17_opens (n : Nat) (hn : 100000 ≤ n) (l : List (El t80)) : r17 n (l, PUnit.unit) = some (opens l) := by
  show r17c n l = _
  unfold r17c opens
  refine (andThen_of (r21_code n hn l)).trans ?_
  show iff (!eqQ (code l) (Int.ofNat 0)) _ _ = _
  by_cases hc : code l = 0
  · rw [if_pos hc, eq0, decide_eq_true hc]
    obtain ⟨h1, h2⟩ := code_zero hc
    refine (iff_f rfl).trans ((andThen_of (r17_in n l (by omega) l 0 n none rfl (by omega) (by show 0 + _ ≤ _; omega) (by omega))).trans ?_)
    show r17_j9 n (ups none (orow notDoneR 0 l)) = _
    rw [r17_j9_eq, rows_ups, orow_same l 0 h2.1]; rfl
  · rw [if_neg hc, eq0, decide_eq_false hc]
    exact (iff_t rfl).trans ((andThen_of (r21_code n hn l)).trans rfl)

/-! ### Before -/
/-- are both numbers of events? -/
def both (l : List (El t80)) (i k : Int) : Prop := 0 ≤ i ∧ i < l.length ∧ 0 ≤ k ∧ k < l.length
noncomputable def over (a b : El t80) : Bool := and (leQ (Int.ofNat 0) (dn a)) (!leQ (bg b) (dn a))
theorem r36_eq (n : Nat) (a b : El t80) : r36 n (a, b, PUnit.unit) = some (over a b, PUnit.unit) := by
  show r36c n a b = _
  unfold r36c over
  show iff (leQ (Int.ofNat 0) (dn a)) _ _ = _
  cases leQ (Int.ofNat 0) (dn a) <;> rfl
open Classical in
/-- what both say -/
noncomputable def before (l : List (El t80)) (i k : Int) : Bool × Int × Unit :=
  if code l = 0 then (if both l i k then (@Option.rec (El t80) (fun _ => Bool) false (fun a => @Option.rec (El t80) (fun _ => Bool) false (fun b => over a b) l[k.toNat]?) l[i.toNat]?, Int.ofNat 0, PUnit.unit) else (false, Int.ofNat 2, PUnit.unit)) else (false, code l, PUnit.unit)
theorem len_le (n : Nat) (x : Int) : leQ (Int.ofNat n) x = decide ((n : Int) ≤ x) := leQ_dec _ _
theorem r18_before (n : Nat) (hn : 2000 ≤ n) (l : List (El t80)) (i k : Int) : r18 n (l, i, k, PUnit.unit) = some (before l i k) := by
  show r18c n l i k = _
  unfold r18c before
  refine (andThen_of (r20_eq n (by omega) l)).trans ?_
  show iff (!eqQ (code l) (Int.ofNat 0)) _ _ = _
  by_cases hc : code l = 0
  · rw [if_pos hc, eq0, decide_eq_true hc]
    refine (iff_f rfl).trans ?_
    have hmin : iff (leQ i k) i k = min i k := by
      rw [leQ_dec, iff_eq]
      by_cases h : i ≤ k
      · rw [if_pos (decide_eq_true h)]; omega
      · rw [if_neg (by rw [decide_eq_false h]; decide)]; omega
    have hmax : iff (leQ k i) i k = max i k := by
      rw [leQ_dec, iff_eq]
      by_cases h : k ≤ i
      · rw [if_pos (decide_eq_true h)]; omega
      · rw [if_neg (by rw [decide_eq_false h]; decide)]; omega
    rw [hmin, hmax]
    have hb : ∀ c : Bool, or (!leQ (Int.ofNat 0) (min i k)) (leQ (Int.ofNat l.length) (max i k)) = c → (iff (!leQ (Int.ofNat 0) (min i k)) (some (Sum.inl (α := (List (El t80) × Int × Int × Bool × Unit) × Unit × Unit) (β := Bool × Int × Unit) ((l, i, k, true, PUnit.unit), PUnit.unit, PUnit.unit)))
        (some (Sum.inl ((l, i, k, leQ (Int.ofNat l.length) (max i k), PUnit.unit), PUnit.unit, PUnit.unit)))) = some (Sum.inl ((l, i, k, c, PUnit.unit), PUnit.unit, PUnit.unit)) := fun c hc => by
      subst hc
      cases leQ (Int.ofNat 0) (min i k) <;> rfl
    refine (andThen_of (hb _ rfl)).trans ?_
    show r18_j5 n l i k (or (!leQ (Int.ofNat 0) (min i k)) (leQ (Int.ofNat l.length) (max i k))) = _
    unfold r18_j5
    by_cases hbo : both l i k
    · obtain ⟨h1, h2, h3, h4⟩ := hbo
      rw [if_pos ⟨h1, h2, h3, h4⟩]
      have hi : i.toNat < l.length := by omega
      have hk : k.toNat < l.length := by omega
      have gi := List.getElem?_eq_getElem hi
      have gk := List.getElem?_eq_getElem hk
      have hf : or (!leQ (Int.ofNat 0) (min i k)) (leQ (Int.ofNat l.length) (max i k)) = false := by
        rw [(le0 _).2 (by omega), len_le, decide_eq_false (by omega)]; rfl
      rw [gi, gk]
      refine (iff_f hf).trans ((andThen_of (inRange_int h1 hi)).trans ((andThen_of (nthQ_some gi)).trans ?_))
      show iff (leQ (Int.ofNat 0) (dn l[i.toNat])) _ _ = some (over l[i.toNat] l[k.toNat], Int.ofNat 0, PUnit.unit)
      unfold over
      cases leQ (Int.ofNat 0) (dn l[i.toNat]) with
      | false => rfl
      | true => exact (iff_t rfl).trans ((andThen_of (inRange_int h1 hi)).trans ((andThen_of (nthQ_some gi)).trans ((andThen_of (inRange_int h3 hk)).trans ((andThen_of (nthQ_some gk)).trans rfl))))
    · rw [if_neg hbo]
      have hf : or (!leQ (Int.ofNat 0) (min i k)) (leQ (Int.ofNat l.length) (max i k)) = true := by
        have h0 := le0 (min i k)
        cases hx : leQ (Int.ofNat 0) (min i k) with
        | false => rfl
        | true =>
          rw [hx] at h0
          have := h0.1 rfl
          have h5 : (l.length : Int) ≤ max i k := Classical.byContradiction fun h => hbo ⟨by omega, by omega, by omega, by omega⟩
          rw [len_le, decide_eq_true h5]; rfl
      exact (iff_t hf).trans rfl
  · rw [if_neg hc, eq0, decide_eq_false hc]
    rfl
theorem r19_before (n : Nat) (hn : 100000 ≤ n) (l : List (El t80)) (i k : Int) : r19 n (l, i, k, PUnit.unit) = some (before l i k) := by
  show r19c n l i k = _
  unfold r19c before
  refine (andThen_of (r21_code n hn l)).trans ?_
  show iff (!eqQ (code l) (Int.ofNat 0)) _ _ = _
  by_cases hc : code l = 0
  · rw [if_pos hc, eq0, decide_eq_true hc]
    refine (iff_f rfl).trans ?_
    have hb : ∀ c : Bool, or (!leQ (Int.ofNat 0) i) (or (leQ (Int.ofNat l.length) i) (or (!leQ (Int.ofNat 0) k) (leQ (Int.ofNat l.length) k))) = c →
        (iff (!leQ (Int.ofNat 0) i) (some (Sum.inl (α := (List (El t80) × Int × Int × Bool × Unit) × Unit × Unit) (β := Bool × Int × Unit) ((l, i, k, true, PUnit.unit), PUnit.unit, PUnit.unit)))
          (iff (leQ (Int.ofNat l.length) i) (some (Sum.inl ((l, i, k, true, PUnit.unit), PUnit.unit, PUnit.unit)))
            (iff (!leQ (Int.ofNat 0) k) (some (Sum.inl ((l, i, k, true, PUnit.unit), PUnit.unit, PUnit.unit)))
              (some (Sum.inl ((l, i, k, leQ (Int.ofNat l.length) k, PUnit.unit), PUnit.unit, PUnit.unit)))))) = some (Sum.inl ((l, i, k, c, PUnit.unit), PUnit.unit, PUnit.unit)) := fun c hc => by
      subst hc
      cases leQ (Int.ofNat 0) i <;> cases leQ (Int.ofNat l.length) i <;> cases leQ (Int.ofNat 0) k <;> rfl
    refine (andThen_of (hb _ rfl)).trans ?_
    show r19_j4 n l i k (or (!leQ (Int.ofNat 0) i) (or (leQ (Int.ofNat l.length) i) (or (!leQ (Int.ofNat 0) k) (leQ (Int.ofNat l.length) k)))) = _
    unfold r19_j4
    by_cases hbo : both l i k
    · obtain ⟨h1, h2, h3, h4⟩ := hbo
      rw [if_pos ⟨h1, h2, h3, h4⟩]
      have hi : i.toNat < l.length := by omega
      have hk : k.toNat < l.length := by omega
      have gi := List.getElem?_eq_getElem hi
      have gk := List.getElem?_eq_getElem hk
      have hf : or (!leQ (Int.ofNat 0) i) (or (leQ (Int.ofNat l.length) i) (or (!leQ (Int.ofNat 0) k) (leQ (Int.ofNat l.length) k))) = false := by
        rw [(le0 _).2 h1, (le0 _).2 h3, len_le, len_le, decide_eq_false (by omega), decide_eq_false (by omega)]; rfl
      rw [gi, gk]
      exact (iff_f hf).trans ((andThen_of (inRange_int h1 hi)).trans ((andThen_of (nthQ_some gi)).trans ((andThen_of (inRange_int h3 hk)).trans ((andThen_of (nthQ_some gk)).trans ((andThen_of (r36_eq n _ _)).trans rfl)))))
    · rw [if_neg hbo]
      have hf : or (!leQ (Int.ofNat 0) i) (or (leQ (Int.ofNat l.length) i) (or (!leQ (Int.ofNat 0) k) (leQ (Int.ofNat l.length) k))) = true := by
        rw [leQ_dec, leQ_dec, leQ_dec, leQ_dec]
        have h5 : ¬ (0 ≤ i ∧ i < l.length ∧ 0 ≤ k ∧ k < l.length) := hbo
        have e0 : Int.ofNat 0 = (0 : Int) := rfl
        have e1 : Int.ofNat l.length = (l.length : Int) := rfl
        rw [e0, e1]
        by_cases a1 : (0 : Int) ≤ i
        · by_cases a2 : (l.length : Int) ≤ i
          · rw [decide_eq_true a1, decide_eq_true a2]; rfl
          · by_cases a3 : (0 : Int) ≤ k
            · have a4 : (l.length : Int) ≤ k := Classical.byContradiction fun h => h5 ⟨a1, by omega, a3, by omega⟩
              rw [decide_eq_true a1, decide_eq_false a2, decide_eq_true a3, decide_eq_true a4]; rfl
            · rw [decide_eq_true a1, decide_eq_false a2, decide_eq_false a3]; rfl
        · rw [decide_eq_false a1]; rfl
      exact (iff_t hf).trans rfl
  · rw [if_neg hc, eq0, decide_eq_false hc]
    exact (iff_t rfl).trans ((andThen_of (r21_code n hn l)).trans rfl)
end L
end Go.Proofs.Ytlhagmgfffigfaa
