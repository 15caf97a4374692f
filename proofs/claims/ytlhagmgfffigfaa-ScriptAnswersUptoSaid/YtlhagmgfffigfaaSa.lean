/- ScriptAnswers, plainly: both answers are the same ones. Conditions: no list is longer than 1048576. -/
import Derived.Test.YtlhagmgfffigfaaL3
set_option maxRecDepth 100000
namespace Go.Proofs.Ytlhagmgfffigfaa
open Go Go.Abs
namespace L
theorem r28_id (n : Nat) (l : List (El t58)) (h : l.length ≤ 1048576) : r28 n (l, PUnit.unit) = some (l, PUnit.unit) := by
  cases l with
  | nil =>
    show sameR (some ([], PUnit.unit)) (some ([], PUnit.unit)) = _
    exact sameR_self _
  | cons z zs =>
    show iff (Nat.ble (Nat.mul (addN 0 (List.length (z :: zs))) 33) 1000000000 && true && true) (iff (Nat.beq (addN 0 (List.length (z :: zs))) (List.length (z :: zs))) (some (z :: zs, PUnit.unit)) none) none = _
    rw [addN_eq, Nat.zero_add, natBeq_self, ble_true (by show (z :: zs).length * 33 ≤ 1000000000; omega)]
    rfl
theorem r8_self (n : Nat) (a : List Int) (h : a.length ≤ 1048576) (hn : a.length < n) : r8 n (a, a, PUnit.unit) = some (true, PUnit.unit) := by
  show r8c n a a = _
  unfold r8c
  rw [eqQ_self]
  obtain ⟨h1, _⟩ := iterF_list (X := (List Int × List Int × Int × Unit) × Unit × Unit) (R := Unit × Unit × Unit ⊕ Bool × Unit) (body := fun x => r8_l4 n (Prod.fst (Prod.fst x)) (Prod.fst (Prod.snd (Prod.fst x))) (Prod.fst (Prod.snd (Prod.snd (Prod.fst x))))) a
    (fun k (_ : Unit) => ((a, a, Int.ofNat k, PUnit.unit), PUnit.unit, PUnit.unit)) (fun s _ => s) (fun _ => .inl (PUnit.unit, PUnit.unit, PUnit.unit)) (fun _ _ => True)
    (fun k y s hk _ => ⟨by
      have hlt := (List.getElem?_eq_some_iff.1 hk).1
      show r8_l4 n a a (Int.ofNat k) = _
      unfold r8_l4
      refine (iff_nf (le_false hlt)).trans ((andThen_of (inRange_nat hlt)).trans ((andThen_of (nthQ_some hk)).trans ((andThen_of (inRange_nat hlt)).trans ((andThen_of (nthQ_some hk)).trans ((iff_nt (eqQ_self y)).trans ?_)))))
      rw [wrap_succ (by omega)], trivial⟩)
    (fun s _ => by
      show r8_l4 n a a (Int.ofNat a.length) = _
      exact iff_nt (le_true (Nat.le_refl _))) n () trivial hn
  rw [show iterF (fun (x : (List Int × List Int × Int × Unit) × Unit × Unit) => r8_l4 n (Prod.fst (Prod.fst x)) (Prod.fst (Prod.snd (Prod.fst x))) (Prod.fst (Prod.snd (Prod.snd (Prod.fst x))))) n ((a, a, Int.ofNat 0, PUnit.unit), PUnit.unit, PUnit.unit) = _ from h1]
  rfl
/-- the lists of an answer are of a length that is known -/
def Short (a : El t64) : Prop := a.2.2.2.2.2.1.length ≤ 1048576
theorem r29_self (n : Nat) (a : El t64) (h : Short a) (hn : 1048576 < n) : r29 n (a, a, PUnit.unit) = some (true, PUnit.unit) := by
  show r29c n a a = _
  unfold r29c
  refine (andThen_of ((iff_nt (eqQ_self _)).trans ((iff_nt (eqE_self (t := Ty.arr 32 (Ty.int Go.IntKind.u8)) rfl a.2.1)).trans ((iff_nt (eqQ_self _)).trans ((iff_nt (eqBl_self _)).trans ((iff_nt (eqE_self (t := t61) rfl a.2.2.2.2.1)).trans (iff_nt (eqQ_self _)))))))).trans ?_
  show r29_j2 n (!eqQ (Int.ofNat (List.length a.2.2.2.2.2.1)) (Int.ofNat (List.length a.2.2.2.2.2.1))) a a = _
  rw [eqQ_self]
  show r29_j2 n false a a = _
  unfold r29_j2
  have h : a.2.2.2.2.2.1.length ≤ 1048576 := h
  obtain ⟨h1, _⟩ := iterF_list (X := (Unit × Unit × Int × Unit) × Unit × El t64 × El t64 × Unit) (R := Unit × Unit × Unit ⊕ Bool × Unit) (body := fun x => r29_l4 n (Prod.fst (Prod.snd (Prod.snd (Prod.fst x)))) (Prod.fst (Prod.snd (Prod.snd x))) (Prod.fst (Prod.snd (Prod.snd (Prod.snd x))))) a.2.2.2.2.2.1
    (fun k (_ : Unit) => ((PUnit.unit, PUnit.unit, Int.ofNat k, PUnit.unit), PUnit.unit, a, a, PUnit.unit)) (fun s _ => s) (fun _ => .inl (PUnit.unit, PUnit.unit, PUnit.unit)) (fun _ _ => True)
    (fun k y s hk _ => ⟨by
      have hlt := (List.getElem?_eq_some_iff.1 hk).1
      show r29_l4 n (Int.ofNat k) a a = _
      unfold r29_l4
      refine (iff_nf (le_false hlt)).trans ((andThen_of (inRange_nat hlt)).trans ((andThen_of (nthQ_some hk)).trans ((andThen_of (inRange_nat hlt)).trans ((andThen_of (nthQ_some hk)).trans ((iff_nt (eqE_self (t := Ty.arr 32 (Ty.int Go.IntKind.u8)) rfl y)).trans ?_)))))
      rw [wrap_succ (by omega)], trivial⟩)
    (fun s _ => by
      show r29_l4 n (Int.ofNat a.2.2.2.2.2.1.length) a a = _
      exact iff_nt (le_true (Nat.le_refl _))) n () trivial (by omega)
  rw [show iterF (fun (x : (Unit × Unit × Int × Unit) × Unit × El t64 × El t64 × Unit) => r29_l4 n (Prod.fst (Prod.snd (Prod.snd (Prod.fst x)))) (Prod.fst (Prod.snd (Prod.snd x))) (Prod.fst (Prod.snd (Prod.snd (Prod.snd x))))) n ((PUnit.unit, PUnit.unit, Int.ofNat 0, PUnit.unit), PUnit.unit, a, a, PUnit.unit) = _ from h1]
  rfl
theorem r9_self (n : Nat) (a : List (El t64)) (h : a.length ≤ 1048576) (hs : ∀ x ∈ a, Short x) (hn : 1048576 < n) : r9 n (a, a, PUnit.unit) = some (true, PUnit.unit) := by
  show r9c n a a = _
  unfold r9c
  rw [eqQ_self]
  obtain ⟨h1, _⟩ := iterF_list (X := (List (El t64) × List (El t64) × Int × Unit) × Unit × Unit) (R := Unit × Unit × Unit ⊕ Bool × Unit) (body := fun x => r9_l4 n (Prod.fst (Prod.fst x)) (Prod.fst (Prod.snd (Prod.fst x))) (Prod.fst (Prod.snd (Prod.snd (Prod.fst x))))) a
    (fun k (_ : Unit) => ((a, a, Int.ofNat k, PUnit.unit), PUnit.unit, PUnit.unit)) (fun s _ => s) (fun _ => .inl (PUnit.unit, PUnit.unit, PUnit.unit)) (fun _ _ => True)
    (fun k y s hk _ => ⟨by
      have hlt := (List.getElem?_eq_some_iff.1 hk).1
      show r9_l4 n a a (Int.ofNat k) = _
      unfold r9_l4
      refine (iff_nf (le_false hlt)).trans ((andThen_of (inRange_nat hlt)).trans ((andThen_of (nthQ_some hk)).trans ((andThen_of (inRange_nat hlt)).trans ((andThen_of (nthQ_some hk)).trans ((andThen_of (r29_self n y (hs y (List.mem_of_getElem? hk)) hn)).trans ?_)))))
      show some _ = some _
      rw [wrap_succ (by omega)], trivial⟩)
    (fun s _ => by
      show r9_l4 n a a (Int.ofNat a.length) = _
      exact iff_nt (le_true (Nat.le_refl _))) n () trivial (by omega)
  rw [show iterF (fun (x : (List (El t64) × List (El t64) × Int × Unit) × Unit × Unit) => r9_l4 n (Prod.fst (Prod.fst x)) (Prod.fst (Prod.snd (Prod.fst x))) (Prod.fst (Prod.snd (Prod.snd (Prod.fst x))))) n ((a, a, Int.ofNat 0, PUnit.unit), PUnit.unit, PUnit.unit) = _ from h1]
  rfl
/-- what an answer adds -/
noncomputable def up {α : Type} (o : Option (List α)) (y : α) : Option (List α) := some (rowsO o ++ [y])
abbrev St := Option (List Int) × Option (List (El t64))
noncomputable def takes (o : El t71) : Bool := and o.2.1.1 (leQ (Int.ofNat 0) o.2.1.2.1)
noncomputable def stepS (s : St) (o : El t71) : St := iff (takes o) (up s.1 o.2.1.2.1, up s.2 o.2.1.2.2.1) s
def Few (m : Nat) (s : St) : Prop := (rowsO s.1).length ≤ m ∧ (rowsO s.2).length ≤ m
theorem stepS_few {m : Nat} {s : St} (o : El t71) (h : Few m s) : Few (m + 1) (stepS s o) := by
  unfold stepS
  rw [iff_eq]
  split
  · exact ⟨by show (rowsO s.1 ++ [_]).length ≤ m + 1; rw [List.length_append]; exact Nat.succ_le_succ h.1, by show (rowsO s.2 ++ [_]).length ≤ m + 1; rw [List.length_append]; exact Nat.succ_le_succ h.2⟩
  · exact ⟨Nat.le_succ_of_le h.1, Nat.le_succ_of_le h.2⟩
theorem r6_j12_eq (n : Nat) (l : List (El t71)) (c i : Int) (a : Option (List Int)) (b : Option (List (El t64))) :
    r6_j12 n l c i a b = some (.inl ((PUnit.unit, PUnit.unit, l, c, wrapQ .i64 (Int.add i (Int.ofNat 1)), PUnit.unit), (a, b, PUnit.unit), PUnit.unit)) := by
  unfold r6_j12
  cases a <;> cases b <;> simp [noO, rowsO, eqBl_self, iff_eq]
theorem r6_j10_false (n : Nat) (l : List (El t71)) (c i : Int) (a : Option (List Int)) (b : Option (List (El t64))) (x : El t66) :
    r6_j10 n l c i false a b x = some (.inl ((PUnit.unit, PUnit.unit, l, c, i, PUnit.unit), (a, b, PUnit.unit), PUnit.unit)) := by
  unfold r6_j10
  cases a <;> cases b <;> simp [noO, rowsO, eqBl_self, iff_eq]
theorem r6_j10_true (n : Nat) (l : List (El t71)) (c i : Int) (a : Option (List Int)) (b : Option (List (El t64))) (x : El t66) (hx : Short x.2.2.1) (ha : (rowsO a).length ≤ 1000) (hb : (rowsO b).length ≤ 1000) :
    r6_j10 n l c i true a b x = some (.inl ((PUnit.unit, PUnit.unit, l, c, i, PUnit.unit), (up a x.2.1, up b x.2.2.1, PUnit.unit), PUnit.unit)) := by
  unfold r6_j10
  refine (iff_t rfl).trans ((andThen_of (r28_id n _ hx)).trans ?_)
  cases a <;> cases b <;> simp [noO, rowsO, iff_eq, addN_eq, up, appE] at ha hb ⊢
  all_goals (repeat' apply And.intro)
  all_goals first | rfl | omega | exact (List.length_append (bs := [x.2.1])).symm
theorem r6_j13_eq (n : Nat) (a : Option (List Int)) (b : Option (List (El t64))) : r6_j13 n a b = some (rowsO a, rowsO b, Int.ofNat 0, PUnit.unit) := by
  unfold r6_j13
  cases a <;> cases b <;> simp [noO, rowsO, eqBl_self, iff_eq]
abbrev X6 := (Unit × Unit × List (El t71) × Int × Int × Unit) × (Option (List Int) × Option (List (El t64)) × Unit) × Unit
noncomputable def st6 (l : List (El t71)) (k : Nat) (s : St) : X6 := ((PUnit.unit, PUnit.unit, l, Int.ofNat l.length, Int.ofNat k, PUnit.unit), (s.1, s.2, PUnit.unit), PUnit.unit)
theorem r6_step (n : Nat) (l : List (El t71)) (hl : l.length ≤ 120) (hs : ∀ o ∈ l, Short o.2.1.2.2.1) (k : Nat) (o : El t71) (s : St) (hk : l[k]? = some o) (h : Few k s) :
    r6_l6 n l (Int.ofNat l.length) (Int.ofNat k) s.1 s.2 = some (.inl (st6 l (k + 1) (stepS s o))) := by
  have hlt := (List.getElem?_eq_some_iff.1 hk).1
  unfold r6_l6
  refine (iff_nf (le_false hlt)).trans ?_
  have h12 : ∀ s : St, sumK (X := X6) (fun x => r6_j12 n (Prod.fst (Prod.snd (Prod.snd (Prod.fst x)))) (Prod.fst (Prod.snd (Prod.snd (Prod.snd (Prod.fst x))))) (Prod.fst (Prod.snd (Prod.snd (Prod.snd (Prod.snd (Prod.fst x)))))) (Prod.fst (Prod.fst (Prod.snd x))) (Prod.fst (Prod.snd (Prod.fst (Prod.snd x))))) (.inl (st6 l k s)) = some (.inl (st6 l (k + 1) s)) := fun s => by
    rw [sumK_inl]
    show r6_j12 n l (Int.ofNat l.length) (Int.ofNat k) s.1 s.2 = _
    rw [r6_j12_eq, wrap_succ (by omega)]
    rfl
  refine (andThen_of (a := .inl (st6 l k (stepS s o))) ?_).trans (h12 _)
  refine (andThen_of (inRange_nat hlt)).trans ((andThen_of (nthQ_some hk)).trans ?_)
  have hj : ∀ b : Bool, takes o = b → r6_j10 n l (Int.ofNat l.length) (Int.ofNat k) b s.1 s.2 o.2.1 = some (.inl (st6 l k (stepS s o))) := fun b hb => by
    cases b with
    | false =>
      rw [r6_j10_false]
      unfold stepS
      rw [hb]; rfl
    | true =>
      rw [r6_j10_true n l _ _ _ _ _ (hs o (List.mem_of_getElem? hk)) (by have := h.1; omega) (by have := h.2; omega)]
      unfold stepS
      rw [hb]; rfl
  unfold takes at hj
  cases hy : (o.2.1.1 : Bool) with
  | true =>
    refine (andThen_of ((iff_t rfl).trans (?_ : _ = some (.inl ((PUnit.unit, PUnit.unit, PUnit.unit, l, Int.ofNat l.length, Int.ofNat k, leQ (Int.ofNat 0) o.2.1.2.1, PUnit.unit), (s.1, s.2, PUnit.unit), o.2.1, PUnit.unit))))).trans ?_
    · obtain ⟨a, b⟩ := s
      cases a <;> cases b <;> simp [noO, rowsO, eqBl_self, iff_eq]
    · exact hj _ (by rw [hy]; rfl)
  | false =>
    refine (andThen_of ((iff_f rfl).trans (?_ : _ = some (.inl ((PUnit.unit, PUnit.unit, PUnit.unit, l, Int.ofNat l.length, Int.ofNat k, false, PUnit.unit), (s.1, s.2, PUnit.unit), o.2.1, PUnit.unit))))).trans ?_
    · obtain ⟨a, b⟩ := s
      cases a <;> cases b <;> simp [noO, rowsO, eqBl_self, iff_eq]
    · exact hj _ (by rw [hy]; rfl)
theorem r6_eq (n : Nat) (l : List (El t71)) (hs : ∀ o ∈ l, Short o.2.1.2.2.1) (hn : 1048576 < n) :
    r6 n (l, PUnit.unit) = if l.length ≤ 120 then some (rowsO (l.foldl stepS (none, none)).1, rowsO (l.foldl stepS (none, none)).2, Int.ofNat 0, PUnit.unit) else some ([], [], Int.ofNat 4, PUnit.unit) := by
  show r6c n l = _
  unfold r6c
  by_cases hl : l.length ≤ 120
  · rw [if_pos hl]
    refine (iff_nt (le_true hl)).trans ?_
    obtain ⟨h1, _⟩ := iterF_list (X := X6) (R := (Unit × Unit × Unit) × (Option (List Int) × Option (List (El t64)) × Unit) × Unit ⊕ List Int × List (El t64) × Int × Unit)
      (body := fun x => r6_l6 n (Prod.fst (Prod.snd (Prod.snd (Prod.fst x)))) (Prod.fst (Prod.snd (Prod.snd (Prod.snd (Prod.fst x))))) (Prod.fst (Prod.snd (Prod.snd (Prod.snd (Prod.snd (Prod.fst x)))))) (Prod.fst (Prod.fst (Prod.snd x))) (Prod.fst (Prod.snd (Prod.fst (Prod.snd x))))) l
      (st6 l) stepS (fun s => .inl ((PUnit.unit, PUnit.unit, PUnit.unit), (s.1, s.2, PUnit.unit), PUnit.unit)) Few
      (fun k o s hk h => ⟨r6_step n l hl hs k o s hk h, stepS_few o h⟩)
      (fun s _ => by
        show r6_l6 n l (Int.ofNat l.length) (Int.ofNat l.length) s.1 s.2 = _
        unfold r6_l6
        refine (iff_nt (le_true (Nat.le_refl _))).trans ?_
        obtain ⟨a, b⟩ := s
        cases a <;> cases b <;> simp [noO, rowsO, eqBl_self, iff_eq]) n (none, none) ⟨Nat.le_refl 0, Nat.le_refl 0⟩ (by omega)
    refine (andThen_of h1).trans ?_
    exact r6_j13_eq n _ _
  · rw [if_neg hl]
    exact iff_nf (le_false (by omega))
/-! ### the reference -/
theorem r7_j12_eq (n : Nat) (l : List (El t71)) (i : Int) (a : Option (List Int)) (b : Option (List (El t64))) (y : El t64) (hb : (rowsO b).length ≤ 1000) :
    r7_j12 n l i a b y = some (.inl ((l, PUnit.unit, PUnit.unit, i, PUnit.unit), (a, up b y, PUnit.unit), PUnit.unit)) := by
  unfold r7_j12
  cases a <;> cases b <;> simp [noO, rowsO, iff_eq, addN_eq, up, appE, eqBl_self] at hb ⊢
  all_goals (repeat' apply And.intro)
  all_goals first | rfl | omega | exact (List.length_append (bs := [y])).symm
theorem r7_j10_eq (n : Nat) (l : List (El t71)) (k : Nat) (o : El t71) (a : Option (List Int)) (b : Option (List (El t64))) (hk : l[k]? = some o) (hx : Short o.2.1.2.2.1) (hb : (rowsO b).length ≤ 1000) :
    r7_j10 n l (Int.ofNat k) a b = some (.inl ((l, PUnit.unit, PUnit.unit, Int.ofNat k, PUnit.unit), (a, up b o.2.1.2.2.1, PUnit.unit), PUnit.unit)) := by
  have hlt := (List.getElem?_eq_some_iff.1 hk).1
  have hx : o.2.1.2.2.1.2.2.2.2.2.1.length ≤ 1048576 := hx
  unfold r7_j10
  refine (andThen_of (inRange_nat hlt)).trans ((andThen_of (nthQ_some hk)).trans ?_)
  have hA : ∀ A : El t64, A.2.2.2.2.2.1 = [] → (A.1, A.2.1, A.2.2.1, A.2.2.2.1, A.2.2.2.2.1, [], A.2.2.2.2.2.2) = A := fun A h => by
    show _ = (A.1, A.2.1, A.2.2.1, A.2.2.2.1, A.2.2.2.2.1, A.2.2.2.2.2.1, A.2.2.2.2.2.2)
    rw [h]; rfl
  have key : ∀ (x : (List (El t71) × Unit × Unit × Int × Unit × Unit) × (Option (List Int) × Option (List (El t64)) × Unit) × El t64 × Unit), x = ((l, PUnit.unit, PUnit.unit, Int.ofNat k, PUnit.unit, PUnit.unit), (a, b, PUnit.unit), o.2.1.2.2.1, PUnit.unit) →
      sumK (fun (x : (List (El t71) × Unit × Unit × Int × Unit × Unit) × (Option (List Int) × Option (List (El t64)) × Unit) × El t64 × Unit) => r7_j12 n (Prod.fst (Prod.fst x)) (Prod.fst (Prod.snd (Prod.snd (Prod.snd (Prod.fst x))))) (Prod.fst (Prod.fst (Prod.snd x))) (Prod.fst (Prod.snd (Prod.fst (Prod.snd x)))) (Prod.fst (Prod.snd (Prod.snd x)))) (.inl x) =
        some (.inl ((l, PUnit.unit, PUnit.unit, Int.ofNat k, PUnit.unit), (a, up b o.2.1.2.2.1, PUnit.unit), PUnit.unit)) := fun x hx => by
    subst hx
    exact r7_j12_eq n l (Int.ofNat k) a b o.2.1.2.2.1 hb
  have hE : ∀ {α : Type} (z : Option (List α)) (q : Nat), (Nat.beq q q && eqBl true true && (eqBl (noO z) (noO (iff (noO z) none (some (rowsO z)))) && (noO (iff (noO z) none (some (rowsO z))) || Nat.beq (List.length (rowsO z)) (List.length (rowsO (iff (noO z) none (some (rowsO z)))))))) = true := fun z q => by
    cases z <;> simp [noO, rowsO, eqBl_self, iff_eq]
  by_cases h0 : o.2.1.2.2.1.2.2.2.2.2.1.length = 0
  · refine (andThen_of ((iff_t (by rw [isZ_eq, decide_eq_true h0])).trans ((iff_t (hE a 1)).trans (iff_t (hE b 41))))).trans (key _ ?_)
    rw [again_o, again_o, hA _ (List.eq_nil_of_length_eq_zero h0)]; rfl
  · refine (andThen_of ((iff_f (by rw [isZ_eq, decide_eq_false h0])).trans ((iff_t ?_).trans ((iff_t (hE a 1)).trans ((iff_t (hE b 41)).trans (iff_t ?_)))))).trans (key _ ?_)
    · rw [addN_eq, Nat.zero_add, ble_true (by show o.2.1.2.2.1.2.2.2.2.2.1.length * 33 ≤ 1000000000; omega)]; rfl
    · rw [addN_eq, Nat.zero_add, natBeq_self]
    · rw [again_o, again_o]; rfl
abbrev X7 := (List (El t71) × Unit × Unit × Int × Unit) × (Option (List Int) × Option (List (El t64)) × Unit) × Unit
noncomputable def st7 (l : List (El t71)) (k : Nat) (s : St) : X7 := ((l, PUnit.unit, PUnit.unit, Int.ofNat k, PUnit.unit), (s.1, s.2, PUnit.unit), PUnit.unit)
theorem r7_j9_eq (n : Nat) (l : List (El t71)) (k : Nat) (o : El t71) (s : St) (hk : l[k]? = some o) (hx : Short o.2.1.2.2.1) (hs : Few 1000 s) (b : Bool) (hb : takes o = b) :
    r7_j9 n l (Int.ofNat k) b s.1 s.2 = some (.inl (st7 l k (stepS s o))) := by
  have hlt := (List.getElem?_eq_some_iff.1 hk).1
  obtain ⟨x, y⟩ := s
  have h1 := hs.1
  have h2 := hs.2
  unfold r7_j9
  cases b with
  | false =>
    refine (iff_f rfl).trans ?_
    unfold stepS
    rw [hb]
    show _ = some (Sum.inl (st7 l k (x, y)))
    cases x <;> cases y <;> simp [noO, rowsO, eqBl_self, iff_eq, st7]
  | true =>
    refine (iff_t rfl).trans ?_
    refine (andThen_of (a := Sum.inl (((l, PUnit.unit, PUnit.unit, Int.ofNat k, PUnit.unit), (up x o.2.1.2.1, y, PUnit.unit), PUnit.unit) : X7)) ?_).trans ?_
    · refine (andThen_of (inRange_nat hlt)).trans ((andThen_of (nthQ_some hk)).trans ?_)
      cases x <;> cases y <;> simp [noO, rowsO, iff_eq, addN_eq, up, appE, eqBl_self] at h1 ⊢
      all_goals (repeat' apply And.intro)
      all_goals first | rfl | exact (if_pos (by omega)).trans (if_pos (List.length_append (bs := [o.2.1.2.1])).symm)
    · show r7_j10 n l (Int.ofNat k) (up x o.2.1.2.1) y = _
      rw [r7_j10_eq n l k o _ _ hk hx h2]
      unfold stepS
      rw [hb]; rfl
theorem r7_j7_eq (n : Nat) (l : List (El t71)) (i : Int) (s : St) : r7_j7 n l i s.1 s.2 = some (.inl ((l, PUnit.unit, PUnit.unit, wrapQ .i64 (Int.add i (Int.ofNat 1)), PUnit.unit), (s.1, s.2, PUnit.unit), PUnit.unit)) := by
  obtain ⟨a, b⟩ := s
  unfold r7_j7
  cases a <;> cases b <;> simp [noO, rowsO, eqBl_self, iff_eq]
theorem r7_j13_eq (n : Nat) (a : Option (List Int)) (b : Option (List (El t64))) : r7_j13 n a b = some (rowsO a, rowsO b, Int.ofNat 0, PUnit.unit) := by
  unfold r7_j13
  cases a <;> cases b <;> simp [noO, rowsO, eqBl_self, iff_eq]
theorem r7_step (n : Nat) (l : List (El t71)) (hl : l.length ≤ 120) (hs : ∀ o ∈ l, Short o.2.1.2.2.1) (k : Nat) (o : El t71) (s : St) (hk : l[k]? = some o) (h : Few k s) :
    r7_l6 n l (Int.ofNat k) s.1 s.2 = some (.inl (st7 l (k + 1) (stepS s o))) := by
  have hlt := (List.getElem?_eq_some_iff.1 hk).1
  have h9 : ∀ b : Bool, takes o = b → r7_j9 n l (Int.ofNat k) b s.1 s.2 = some (.inl (st7 l k (stepS s o))) := fun b hb => r7_j9_eq n l k o s hk (hs o (List.mem_of_getElem? hk)) ⟨Nat.le_trans h.1 (by omega), Nat.le_trans h.2 (by omega)⟩ b hb
  have hE : ∀ {α : Type} (z : Option (List α)) (q : Nat), (Nat.beq q q && eqBl true true && (eqBl (noO z) (noO (iff (noO z) none (some (rowsO z)))) && (noO (iff (noO z) none (some (rowsO z))) || Nat.beq (List.length (rowsO z)) (List.length (rowsO (iff (noO z) none (some (rowsO z)))))))) = true := fun z q => by
    cases z <;> simp [noO, rowsO, eqBl_self, iff_eq]
  have h7 : ∀ s : St, sumK (X := X7) (fun x => r7_j7 n (Prod.fst (Prod.fst x)) (Prod.fst (Prod.snd (Prod.snd (Prod.snd (Prod.fst x))))) (Prod.fst (Prod.fst (Prod.snd x))) (Prod.fst (Prod.snd (Prod.fst (Prod.snd x))))) (.inl (st7 l k s)) = some (.inl (st7 l (k + 1) s)) := fun s => by
    rw [sumK_inl]
    show r7_j7 n l (Int.ofNat k) s.1 s.2 = _
    rw [r7_j7_eq, wrap_succ (by omega)]
    rfl
  unfold r7_l6
  refine (iff_nf (le_false hlt)).trans ((andThen_of (a := .inl (st7 l k (stepS s o))) ?_).trans (h7 _))
  have hs9 : ∀ b : Bool, takes o = b → sumK (X := (List (El t71) × Unit × Unit × Int × Bool × Unit) × (Option (List Int) × Option (List (El t64)) × Unit) × Unit) (fun x => r7_j9 n (Prod.fst (Prod.fst x)) (Prod.fst (Prod.snd (Prod.snd (Prod.snd (Prod.fst x))))) (Prod.fst (Prod.snd (Prod.snd (Prod.snd (Prod.snd (Prod.fst x)))))) (Prod.fst (Prod.fst (Prod.snd x))) (Prod.fst (Prod.snd (Prod.fst (Prod.snd x))))) (.inl ((l, PUnit.unit, PUnit.unit, Int.ofNat k, b, PUnit.unit), (s.1, s.2, PUnit.unit), PUnit.unit)) = some (.inl (st7 l k (stepS s o))) := fun b hb => h9 b hb
  cases hy : (o.2.1.1 : Bool) with
  | true =>
    refine (andThen_of (a := .inl ((l, PUnit.unit, PUnit.unit, Int.ofNat k, leQ (Int.ofNat 0) o.2.1.2.1, PUnit.unit), (s.1, s.2, PUnit.unit), PUnit.unit)) ?_).trans (hs9 _ (by unfold takes; rw [hy]; rfl))
    refine (andThen_of (inRange_nat hlt)).trans ((andThen_of (nthQ_some hk)).trans ((iff_t hy).trans ((andThen_of (inRange_nat hlt)).trans ((andThen_of (nthQ_some hk)).trans ((iff_t (hE s.1 1)).trans ((iff_t (hE s.2 41)).trans ?_))))))
    rw [again_o, again_o]
  | false =>
    refine (andThen_of (a := .inl ((l, PUnit.unit, PUnit.unit, Int.ofNat k, false, PUnit.unit), (s.1, s.2, PUnit.unit), PUnit.unit)) ?_).trans (hs9 _ (by unfold takes; rw [hy]; rfl))
    refine (andThen_of (inRange_nat hlt)).trans ((andThen_of (nthQ_some hk)).trans ((iff_f hy).trans ((iff_t (hE s.1 1)).trans ((iff_t (hE s.2 41)).trans ?_))))
    rw [again_o, again_o]
theorem r7_eq (n : Nat) (l : List (El t71)) (hs : ∀ o ∈ l, Short o.2.1.2.2.1) (hn : 1048576 < n) :
    r7 n (l, PUnit.unit) = if l.length ≤ 120 then some (rowsO (l.foldl stepS (none, none)).1, rowsO (l.foldl stepS (none, none)).2, Int.ofNat 0, PUnit.unit) else some ([], [], Int.ofNat 4, PUnit.unit) := by
  show r7c n l = _
  unfold r7c
  by_cases hl : l.length ≤ 120
  · rw [if_pos hl]
    refine (iff_nt (le_true hl)).trans ?_
    obtain ⟨h1, _⟩ := iterF_list (X := X7) (R := (Unit × Unit × Unit) × (Option (List Int) × Option (List (El t64)) × Unit) × Unit ⊕ List Int × List (El t64) × Int × Unit)
      (body := fun x => r7_l6 n (Prod.fst (Prod.fst x)) (Prod.fst (Prod.snd (Prod.snd (Prod.snd (Prod.fst x))))) (Prod.fst (Prod.fst (Prod.snd x))) (Prod.fst (Prod.snd (Prod.fst (Prod.snd x))))) l
      (st7 l) stepS (fun s => .inl ((PUnit.unit, PUnit.unit, PUnit.unit), (s.1, s.2, PUnit.unit), PUnit.unit)) Few
      (fun k o s hk h => ⟨r7_step n l hl hs k o s hk h, stepS_few o h⟩)
      (fun s _ => by
        show r7_l6 n l (Int.ofNat l.length) s.1 s.2 = _
        unfold r7_l6
        refine (iff_nt (le_true (Nat.le_refl _))).trans ?_
        obtain ⟨a, b⟩ := s
        cases a <;> cases b <;> simp [noO, rowsO, eqBl_self, iff_eq]) n (none, none) ⟨Nat.le_refl 0, Nat.le_refl 0⟩ (by omega)
    refine (andThen_of h1).trans ?_
    exact r7_j13_eq n _ _
  · rw [if_neg hl]
    exact iff_nf (le_false (by omega))
/-! ### the law -/
theorem few_all : ∀ (l : List (El t71)) (m : Nat) (s : St), Few m s → Few (m + l.length) (l.foldl stepS s)
  | [], m, s, h => h
  | o :: l, m, s, h => by
    rw [List.length_cons, Nat.add_comm l.length 1, ← Nat.add_assoc]
    exact few_all l (m + 1) (stepS s o) (stepS_few o h)
theorem short_all : ∀ (l : List (El t71)) (s : St), (∀ o ∈ l, Short o.2.1.2.2.1) → (∀ x ∈ rowsO s.2, Short x) → ∀ x ∈ rowsO (l.foldl stepS s).2, Short x
  | [], s, _, h => h
  | o :: l, s, hl, h => by
    refine short_all l (stepS s o) (fun q hq => hl q (List.mem_cons_of_mem _ hq)) fun x hx => ?_
    unfold stepS at hx
    rw [iff_eq] at hx
    split at hx
    · have hx : x ∈ rowsO s.2 ++ [o.2.1.2.2.1] := hx
      rcases List.mem_append.1 hx with h1 | h1
      · exact h x h1
      · rw [List.mem_singleton.1 h1]; exact hl o (List.mem_cons_self ..)
    · exact h x hx
theorem law (n : Nat) (l : List (El t71)) (hs : ∀ o ∈ l, Short o.2.1.2.2.1) (hn : 1048576 < n) : r3 n (l, PUnit.unit) = some (true, PUnit.unit) := by
  show r3c n l = _
  unfold r3c
  by_cases h130 : l.length ≤ 130
  · refine (iff_nt (le_true h130)).trans ?_
    by_cases hl : l.length ≤ 120
    · have h6 := r6_eq n l hs hn
      have h7 := r7_eq n l hs hn
      rw [if_pos hl] at h6 h7
      have hf := few_all l 0 (none, none) ⟨Nat.le_refl 0, Nat.le_refl 0⟩
      refine (andThen_of h6).trans ((andThen_of h7).trans ((andThen_of (r8_self n _ (Nat.le_trans hf.1 (by omega)) (by have := hf.1; omega))).trans ((iff_t rfl).trans ((andThen_of (r9_self n _ (Nat.le_trans hf.2 (by omega)) (short_all l _ hs fun x hx => by cases hx) hn)).trans ((iff_t rfl).trans ?_)))))
      show some (eqQ (Int.ofNat 0) (Int.ofNat 0), PUnit.unit) = _
      rw [eqQ_self]
    · have h6 := r6_eq n l hs hn
      have h7 := r7_eq n l hs hn
      rw [if_neg hl] at h6 h7
      refine (andThen_of h6).trans ((andThen_of h7).trans ((andThen_of (r8_self n [] (Nat.zero_le _) (by show 0 < n; omega))).trans ((iff_t rfl).trans ((andThen_of (r9_self n [] (Nat.zero_le _) (fun x hx => by cases hx) hn)).trans ((iff_t rfl).trans ?_)))))
      show some (eqQ (Int.ofNat 4) (Int.ofNat 4), PUnit.unit) = _
      rw [eqQ_self]
  · exact iff_nf (le_false (by omega))
end L
end Go.Proofs.Ytlhagmgfffigfaa
