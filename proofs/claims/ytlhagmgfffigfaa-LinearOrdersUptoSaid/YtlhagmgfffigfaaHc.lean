/- HistoryReads, plainly: when events are good; the program's check says so, and so does the reference's. Conditions: none. -/
import Derived.Test.YtlhagmgfffigfaaHb
set_option maxRecDepth 100000
namespace Go.Proofs.Ytlhagmgfffigfaa
open Go Go.Abs
namespace L
/-- good events behind others: 'b' began last, 'ts' are the tickets, 'ps' the places that are taken -/
def Ok : Int → List Int → List Int → List (El t80) → Prop
  | _, _, _, [] => True
  | b, ts, ps, e :: l => validE e = true ∧ b < bg e ∧ (0 ≤ tk e → tk e ∉ ts) ∧ (0 ≤ ac e → ac e ∉ ps) ∧ (0 ≤ sh e → sh e ∉ ac e :: ps) ∧ Ok (bg e) (tk e :: ts) (sh e :: ac e :: ps) l
def In (m : M) (ts : List Int) : Prop := ∀ x, has m x = true ↔ x ∈ ts
theorem In.put {m : M} {ts : List Int} (h : In m ts) (k : Int) : In (put m k) (k :: ts) := fun x => by
  rw [has_put, List.mem_cons]
  by_cases hx : x = k
  · rw [if_pos hx]; exact ⟨fun _ => .inl hx, fun _ => rfl⟩
  · rw [if_neg hx, h x]; exact ⟨.inr, fun h => h.resolve_left hx⟩
theorem le0 (x : Int) : leQ (Int.ofNat 0) x = true ↔ 0 ≤ x := by rw [leQ_dec, decide_eq_true_eq]; exact Iff.rfl
theorem badE_iff {b : Int} {m : M} {ts : List Int} (h : In m ts) (e : El t80) : badE b m e = false ↔ validE e = true ∧ b < bg e ∧ (0 ≤ tk e → tk e ∉ ts) := by
  unfold badE
  have h1 := h (tk e)
  have h2 := le0 (tk e)
  rw [leQ_dec (bg e) b]
  cases validE e <;> cases hx : has m (tk e) <;> cases hy : leQ (Int.ofNat 0) (tk e) <;> rw [hx] at h1 <;> rw [hy] at h2 <;> simp at h1 h2 ⊢ <;> (try omega) <;> (try simp [h1, h2]) <;> (try omega)
theorem putP_iff {p : M} {ps : List Int} (h : In p ps) (y : Int) : (putP p y = none ∧ 0 ≤ y ∧ y ∈ ps) ∨ (putP p y = some (put p y) ∧ (0 ≤ y → y ∉ ps)) := by
  have h1 := h y
  have h2 := le0 y
  unfold putP
  cases hx : has p y <;> cases hy : leQ (Int.ofNat 0) y <;> rw [hx] at h1 <;> rw [hy] at h2
  · exact .inr ⟨rfl, fun h3 => by simp at h1; exact h1⟩
  · exact .inr ⟨rfl, fun h3 => by simp at h1; exact h1⟩
  · exact .inr ⟨rfl, fun h3 => by simp at h2; omega⟩
  · exact .inl ⟨rfl, h2.1 rfl, h1.1 rfl⟩
theorem foldE_ok : ∀ (l : List (El t80)) (b : Int) (t p : M) (ts ps : List Int), In t ts → In p ps → (Ok b ts ps l → foldE l (b, t, p) = 0) ∧ (¬ Ok b ts ps l → foldE l (b, t, p) = 8)
  | [], b, t, p, ts, ps, _, _ => ⟨fun _ => rfl, fun h => absurd trivial h⟩
  | e :: l, b, t, p, ts, ps, ht, hp => by
    have hb := badE_iff (b := b) ht e
    have hf : foldE (e :: l) (b, t, p) = @Option.rec S20 (fun _ => Int) (Int.ofNat 8) (fun s' => foldE l s') (stepE (b, t, p) e) := rfl
    have hstep : stepE (b, t, p) e = iff (badE b t e) none (andThen (andThen (putP p (ac e)) fun q => putP q (sh e)) fun q => some (bg e, put t (tk e), q)) := rfl
    rw [hf, hstep]
    cases hbad : badE b t e with
    | true =>
      have hn : ¬ Ok b ts ps (e :: l) := fun ho => by rw [hb.2 ⟨ho.1, ho.2.1, ho.2.2.1⟩] at hbad; cases hbad
      exact ⟨fun ho => absurd ho hn, fun _ => rfl⟩
    | false =>
      obtain ⟨g1, g2, g3⟩ := hb.1 hbad
      rw [iff_f rfl]
      rcases putP_iff hp (ac e) with ⟨h1, h2, h3⟩ | ⟨h1, h2⟩
      · rw [h1]
        exact ⟨fun ho => absurd h3 (ho.2.2.2.1 h2), fun _ => rfl⟩
      · rw [h1, andThen_st]
        have hp1 := hp.put (ac e)
        rcases putP_iff hp1 (sh e) with ⟨h4, h5, h6⟩ | ⟨h4, h5⟩
        · rw [h4]
          exact ⟨fun ho => absurd h6 (ho.2.2.2.2.1 h5), fun _ => rfl⟩
        · rw [h4, andThen_st]
          obtain ⟨k1, k2⟩ := foldE_ok l (bg e) (put t (tk e)) (put (put p (ac e)) (sh e)) _ _ (ht.put (tk e)) (hp1.put (sh e))
          exact ⟨fun ho => k1 ho.2.2.2.2.2, fun hn => k2 fun ho => hn ⟨g1, g2, g3, h2, h5, ho⟩⟩
/-- the places of an event, of events -/
noncomputable def pls (e : El t80) : List Int := [ac e, sh e].filter fun x => decide (0 ≤ x)
noncomputable def places (l : List (El t80)) : List Int := l.flatMap pls
def Later (a b : El t80) : Prop := 0 ≤ tk b → tk b ≠ tk a
def chainB : Int → List (El t80) → Prop
  | _, [] => True
  | b, e :: l => b < bg e ∧ chainB (bg e) l
theorem mem_pls {x : Int} {e : El t80} : x ∈ pls e ↔ 0 ≤ x ∧ (x = ac e ∨ x = sh e) := by
  unfold pls
  rw [List.mem_filter, decide_eq_true_eq]
  simp only [List.mem_cons, List.not_mem_nil, or_false]
  exact ⟨fun h => ⟨h.2, h.1⟩, fun h => ⟨h.2, h.1⟩⟩
theorem pls_nodup (e : El t80) : (pls e).Nodup ↔ (0 ≤ sh e → sh e ≠ ac e) := by
  unfold pls
  by_cases h1 : 0 ≤ ac e <;> by_cases h2 : 0 ≤ sh e
  · rw [List.filter_cons_of_pos (by simpa using h1), List.filter_cons_of_pos (by simpa using h2)]
    simp only [List.filter_nil, List.nodup_cons, List.mem_cons, List.not_mem_nil, or_false, not_false_eq_true, List.nodup_nil, and_true]
    exact ⟨fun h _ e1 => h e1.symm, fun h e1 => h h2 e1.symm⟩
  · rw [List.filter_cons_of_pos (by simpa using h1), List.filter_cons_of_neg (by simpa using h2)]
    simp [h2]
  · rw [List.filter_cons_of_neg (by simpa using h1), List.filter_cons_of_pos (by simpa using h2)]
    simp only [List.filter_nil, List.nodup_cons, List.not_mem_nil, not_false_eq_true, List.nodup_nil, and_true, true_iff]
    intro _ e1
    omega
  · rw [List.filter_cons_of_neg (by simpa using h1), List.filter_cons_of_neg (by simpa using h2)]
    simp [h2]
theorem ok_iff : ∀ (l : List (El t80)) (b : Int) (ts ps : List Int), Ok b ts ps l ↔ (∀ e ∈ l, validE e = true) ∧ chainB b l ∧ l.Pairwise Later ∧ (∀ e ∈ l, 0 ≤ tk e → tk e ∉ ts) ∧ (places l).Nodup ∧ ∀ x ∈ places l, x ∉ ps
  | [], b, ts, ps => by simp [Ok, chainB, places]
  | e :: l, b, ts, ps => by
    have ih := ok_iff l (bg e) (tk e :: ts) (sh e :: ac e :: ps)
    have hpl : places (e :: l) = pls e ++ places l := rfl
    have hnn : ∀ x ∈ places l, 0 ≤ x := fun x hx => by
      obtain ⟨e', _, h⟩ := List.mem_flatMap.1 hx
      exact (mem_pls.1 h).1
    show (validE e = true ∧ b < bg e ∧ (0 ≤ tk e → tk e ∉ ts) ∧ (0 ≤ ac e → ac e ∉ ps) ∧ (0 ≤ sh e → sh e ∉ ac e :: ps) ∧ Ok (bg e) (tk e :: ts) (sh e :: ac e :: ps) l) ↔ _
    rw [ih, hpl, List.nodup_append, List.pairwise_cons, pls_nodup]
    constructor
    · rintro ⟨h1, h2, h3, h4, h5, h6, h7, h8, h9, h10, h11⟩
      refine ⟨fun x hx => ?_, ⟨h2, h7⟩, ⟨fun x hx => ?_, h8⟩, fun x hx => ?_, ⟨fun hs => ?_, h10, fun x hx y hy => ?_⟩, fun x hx => ?_⟩
      · rcases List.mem_cons.1 hx with rfl | hx
        · exact h1
        · exact h6 x hx
      · exact fun h e1 => h9 x hx h (by rw [e1]; exact List.mem_cons_self ..)
      · rcases List.mem_cons.1 hx with rfl | hx
        · exact h3
        · exact fun h hm => h9 x hx h (List.mem_cons_of_mem _ hm)
      · exact fun e1 => h5 hs (by rw [e1]; exact List.mem_cons_self ..)
      · intro e1
        subst e1
        have := h11 x hy
        rcases (mem_pls.1 hx).2 with e1 | e1
        · exact this (by rw [e1]; exact List.mem_cons_of_mem _ (List.mem_cons_self ..))
        · exact this (by rw [e1]; exact List.mem_cons_self ..)
      · rcases List.mem_append.1 hx with hx | hx
        · obtain ⟨g1, g2⟩ := mem_pls.1 hx
          rcases g2 with g2 | g2
          · rw [g2] at g1 ⊢; exact h4 g1
          · rw [g2] at g1 ⊢; exact fun hm => h5 g1 (List.mem_cons_of_mem _ hm)
        · exact fun hm => h11 x hx (List.mem_cons_of_mem _ (List.mem_cons_of_mem _ hm))
    · rintro ⟨h1, ⟨h2, h3⟩, ⟨h4, h5⟩, h6, ⟨h7, h8, h9⟩, h10⟩
      refine ⟨h1 e (List.mem_cons_self ..), h2, h6 e (List.mem_cons_self ..), fun ha => ?_, fun hs => ?_, fun x hx => h1 x (List.mem_cons_of_mem _ hx), h3, h5, fun x hx h hm => ?_, h8, fun x hx hm => ?_⟩
      · exact h10 _ (List.mem_append_left _ (mem_pls.2 ⟨ha, .inl rfl⟩))
      · intro hm
        rcases List.mem_cons.1 hm with h | h
        · exact h7 hs h
        · exact h10 _ (List.mem_append_left _ (mem_pls.2 ⟨hs, .inr rfl⟩)) h
      · rcases List.mem_cons.1 hm with h' | h'
        · exact h4 x hx h h'
        · exact h6 x (List.mem_cons_of_mem _ hx) h h'
      · have h0 := hnn x hx
        rcases List.mem_cons.1 hm with h' | h'
        · exact h9 x (mem_pls.2 ⟨h0, .inr h'⟩) x hx rfl
        · rcases List.mem_cons.1 h' with h' | h'
          · exact h9 x (mem_pls.2 ⟨h0, .inl h'⟩) x hx rfl
          · exact h10 x (List.mem_append_right _ hx) h'
/-- good events -/
def Good (l : List (El t80)) : Prop := (∀ e ∈ l, validE e = true) ∧ chainB (-1) l ∧ l.Pairwise Later ∧ (places l).Nodup
theorem code_good {l : List (El t80)} (hl : l.length ≤ 120) : (Good l → code l = 0) ∧ (¬ Good l → code l = 8) := by
  have h0 : code l = foldE l (Int.negSucc 0, ([], Int.ofNat 0), ([], Int.ofNat 0)) := iff_t (le_true hl)
  rw [h0]
  have hk := foldE_ok l (Int.negSucc 0) ([], Int.ofNat 0) ([], Int.ofNat 0) [] [] (fun x => ⟨fun h => (by cases h), fun h => (by cases h)⟩) (fun x => ⟨fun h => (by cases h), fun h => (by cases h)⟩)
  have hi : Ok (-1) [] [] l ↔ Good l := by
    rw [ok_iff]
    exact ⟨fun ⟨h1, h2, h3, _, h5, _⟩ => ⟨h1, h2, h3, h5⟩, fun ⟨h1, h2, h3, h5⟩ => ⟨h1, h2, h3, fun _ _ _ h => (by cases h), h5, fun _ _ h => (by cases h)⟩⟩
  exact ⟨fun h => hk.1 (hi.2 h), fun h => hk.2 fun h' => h (hi.1 h')⟩
theorem code_many {l : List (El t80)} (hl : 120 < l.length) : code l = 4 := iff_f (le_false hl)
end L
end Go.Proofs.Ytlhagmgfffigfaa
