/- HistoryReads, plainly: the reference's points, bs a function of lists. Conditions: at most 130 events. -/
import Derived.Test.YtlhagmgfffigfaaHw
import Derived.Test.YtlhagmgfffigfaaL33
set_option maxRecDepth 100000
namespace Go.Proofs.Ytlhagmgfffigfaa
open Go Go.Abs
namespace L
noncomputable def ac (e : El t80) : Int := e.2.2.2.2.2.2.2.1
noncomputable def sh (e : El t80) : Int := e.2.2.2.2.2.2.2.2.2.1
noncomputable def tk (e : El t80) : Int := e.2.2.2.2.2.1
noncomputable def bg (e : El t80) : Int := e.2.2.2.2.2.2.1
noncomputable def dn (e : El t80) : Int := e.2.2.2.2.2.2.2.2.2.2.1
/-- one more in a growing slice -/
theorem grow_o {t : Ty} {A : Type} (z m : Nat) (o : Option (List (El t))) (x : El t) (F : Option (List (El t)) → Option A) (h : ((rowsO o).length + 1) * m ≤ 1000000000) :
    iff (noO o) (F (some [x])) (iff (!noO o && (Nat.beq z z && Nat.beq (Nat.add (Nat.mul (List.length (rowsO o)) z) 0) (Nat.mul (List.length (rowsO o)) z)))
      (iff (Nat.ble (Nat.mul (addN (List.length (rowsO o)) 1) m) 1000000000 && Bool.true && Bool.true)
        (iff (Nat.beq z z && (!noO (some (appE t (rowsO o) [x])) && Nat.beq (addN (List.length (rowsO o)) 1) (List.length (rowsO (some (appE t (rowsO o) [x])))))) (F (some (appE t (rowsO o) [x]))) none) none) none) = F (up o x) := by
  cases o with
  | none => rfl
  | some v =>
    have h : (v.length + 1) * m ≤ 1000000000 := h
    refine (iff_f rfl).trans ((iff_t ?_).trans ((iff_t ?_).trans ((iff_t ?_).trans rfl)))
    · show (Nat.beq z z && Nat.beq (Nat.add (Nat.mul v.length z) 0) (Nat.mul v.length z)) = true
      rw [natBeq_self]
      exact natBeq_self _
    · show (Nat.ble (Nat.mul (addN v.length 1) m) 1000000000 && true && true) = true
      rw [addN_eq, ble_true (show Nat.mul (v.length + 1) m ≤ 1000000000 from h)]; rfl
    · show (Nat.beq z z && Nat.beq (addN v.length 1) (List.length (v ++ [x]))) = true
      rw [addN_eq, List.length_append, natBeq_self]
      exact natBeq_self _
/-- a growing slice, told anew -/
theorem keep_o {α A : Type} (o : Option (List α)) (F : Option (List α) → Option A) :
    iff (Nat.beq 3 3 && eqBl Bool.true Bool.true && (eqBl (noO o) (noO (iff (noO o) none (some (rowsO o)))) && (noO (iff (noO o) none (some (rowsO o))) || Nat.beq (List.length (rowsO o)) (List.length (rowsO (iff (noO o) none (some (rowsO o)))))))) (F (iff (noO o) none (some (rowsO o)))) none = F o := by
  cases o with
  | none => rfl
  | some v =>
    refine (iff_t ?_).trans rfl
    show Nat.beq v.length v.length = true
    exact natBeq_self _
/-- the points of an event at an entry -/
noncomputable def atA (a k : Int) (e : El t80) : List (El t82) := iff (eqQ (ac e) a) [(a, k, Int.ofNat 1, PUnit.unit)] []
noncomputable def atS (a k : Int) (e : El t80) : List (El t82) := iff (eqQ (sh e) a) [(a, k, Int.ofNat 2, PUnit.unit)] []
theorem atA_len (a k : Int) (e : El t80) : (atA a k e).length ≤ 1 := by
  unfold atA
  cases eqQ (ac e) a
  · exact Nat.zero_le _
  · exact Nat.le_refl _
theorem atS_len (a k : Int) (e : El t80) : (atS a k e).length ≤ 1 := by
  unfold atS
  cases eqQ (sh e) a
  · exact Nat.zero_le _
  · exact Nat.le_refl _
noncomputable def ups {α : Type} (o : Option (List α)) (ys : List α) : Option (List α) := ys.foldl (fun s a => up s a) o
theorem rows_ups {α : Type} (o : Option (List α)) (ys : List α) : rowsO (ups o ys) = rowsO o ++ ys := rows_up ys o
theorem ups_ups {α : Type} (o : Option (List α)) (xs ys : List α) : ups (ups o xs) ys = ups o (xs ++ ys) := (List.foldl_append).symm
abbrev X33 : Type := (List (El t80) × Unit × Int × Int × Unit) × (Option (List (El t82)) × Unit) × Unit
theorem r33_j10_eq (n : Nat) (l : List (El t80)) (a : Int) (k : Nat) (o : Option (List (El t82))) (e : El t80) (hk : l[k]? = some e) (h : (rowsO o).length ≤ 1000000) :
    r33_j10 n l a (Int.ofNat k) o = some (.inl ((l, PUnit.unit, a, Int.ofNat k, PUnit.unit), (ups o (atS a (Int.ofNat k) e), PUnit.unit), PUnit.unit)) := by
  have hlt := (List.getElem?_eq_some_iff.1 hk).1
  unfold r33_j10
  refine (andThen_of (inRange_nat hlt)).trans ((andThen_of (nthQ_some hk)).trans ?_)
  unfold atS ups sh
  cases hc : eqQ e.2.2.2.2.2.2.2.2.2.1 a with
  | true =>
    rw [iff_t rfl, iff_t rfl]
    exact grow_o (t := t82) 3 25 o (a, Int.ofNat k, Int.ofNat 2, PUnit.unit) (fun o' => some (Sum.inl ((l, PUnit.unit, a, Int.ofNat k, PUnit.unit), (o', PUnit.unit), PUnit.unit))) (by omega)
  | false =>
    rw [iff_f rfl, iff_f rfl]
    exact keep_o o (fun o' => some (Sum.inl ((l, PUnit.unit, a, Int.ofNat k, PUnit.unit), (o', PUnit.unit), PUnit.unit)))
theorem r33_j7_eq (n : Nat) (l : List (El t80)) (a k : Int) (o : Option (List (El t82))) :
    r33_j7 n l a k o = some (.inl ((l, PUnit.unit, a, wrapQ .i64 (Int.add k (Int.ofNat 1)), PUnit.unit), (o, PUnit.unit), PUnit.unit)) := by
  unfold r33_j7
  cases o <;> simp [noO, rowsO, eqBl_self, iff_eq] <;> rfl
theorem r33_l6_eq (n : Nat) (l : List (El t80)) (a : Int) (k : Nat) (o : Option (List (El t82))) (e : El t80) (hk : l[k]? = some e) (hl : l.length ≤ 1000) (h : (rowsO o).length ≤ 900000) :
    r33_l6 n l a (Int.ofNat k) o = some (.inl ((l, PUnit.unit, a, Int.ofNat (k + 1), PUnit.unit), (ups o (atA a (Int.ofNat k) e ++ atS a (Int.ofNat k) e), PUnit.unit), PUnit.unit)) := by
  have hlt := (List.getElem?_eq_some_iff.1 hk).1
  unfold r33_l6
  refine (iff_nf (le_false hlt)).trans ?_
  refine (andThen_of (a := Sum.inl ((l, PUnit.unit, a, Int.ofNat k, PUnit.unit), (ups o (atA a (Int.ofNat k) e ++ atS a (Int.ofNat k) e), PUnit.unit), PUnit.unit)) ?_).trans ?_
  · have h1 : (rowsO (ups o (atA a (Int.ofNat k) e))).length ≤ 1000000 := by
      rw [rows_ups, List.length_append]
      have := atA_len a (Int.ofNat k) e
      omega
    refine (andThen_of (a := Sum.inl ((l, PUnit.unit, a, Int.ofNat k, PUnit.unit), (ups o (atA a (Int.ofNat k) e), PUnit.unit), PUnit.unit)) ?_).trans ?_
    · refine (andThen_of (inRange_nat hlt)).trans ((andThen_of (nthQ_some hk)).trans ?_)
      unfold atA ups ac
      cases hc : eqQ e.2.2.2.2.2.2.2.1 a with
      | true =>
        rw [iff_t rfl, iff_t rfl]
        exact grow_o (t := t82) 3 25 o (a, Int.ofNat k, Int.ofNat 1, PUnit.unit) (fun o' => some (Sum.inl ((l, PUnit.unit, a, Int.ofNat k, PUnit.unit), (o', PUnit.unit), PUnit.unit))) (by omega)
      | false =>
        rw [iff_f rfl, iff_f rfl]
        exact keep_o o (fun o' => some (Sum.inl ((l, PUnit.unit, a, Int.ofNat k, PUnit.unit), (o', PUnit.unit), PUnit.unit)))
    · show r33_j10 n l a (Int.ofNat k) (ups o (atA a (Int.ofNat k) e)) = _
      rw [r33_j10_eq n l a k _ e hk h1, ups_ups]
  · show r33_j7 n l a (Int.ofNat k) _ = _
    rw [r33_j7_eq, wrap_succ (by omega)]
/-- the points of all events, with their numbers from k on, at an entry -/
noncomputable def row33 (a : Int) : Nat → List (El t80) → List (El t82)
  | _, [] => []
  | k, e :: l => (atA a (Int.ofNat k) e ++ atS a (Int.ofNat k) e) ++ row33 a (k + 1) l
theorem row33_len (a : Int) : ∀ (l : List (El t80)) (k : Nat), (row33 a k l).length ≤ 2 * l.length
  | [], _ => Nat.le_refl _
  | e :: l, k => by
    have := row33_len a l (k + 1)
    have h1 := atA_len a (Int.ofNat k) e
    have h2 := atS_len a (Int.ofNat k) e
    show ((atA a (Int.ofNat k) e ++ atS a (Int.ofNat k) e) ++ row33 a (k + 1) l).length ≤ _
    rw [List.length_append, List.length_append, List.length_cons]
    omega
theorem again_keep (o : Option (List (El t82))) : iff (noO o) none (some (rowsO o)) = o := again_o o
/-- the rest of an inner loop -/
theorem r33_in (n : Nat) (l : List (El t80)) (a : Int) (hl : l.length ≤ 1000) : ∀ (r : List (El t80)) (k m : Nat) (o : Option (List (El t82))), l.drop k = r → k + r.length = l.length → (rowsO o).length + 2 * r.length ≤ 900000 → r.length < m →
    iterF (fun (x : X33) => r33_l6 n (Prod.fst (Prod.fst x)) (Prod.fst (Prod.snd (Prod.snd (Prod.fst x)))) (Prod.fst (Prod.snd (Prod.snd (Prod.snd (Prod.fst x))))) (Prod.fst (Prod.fst (Prod.snd x)))) m ((l, PUnit.unit, a, Int.ofNat k, PUnit.unit), (o, PUnit.unit), PUnit.unit) =
      some (.inl ((l, PUnit.unit, a, PUnit.unit), (ups o (row33 a k r), PUnit.unit), PUnit.unit)) := by
  intro r
  induction r with
  | nil =>
    intro k m o _ hk _ hm
    have hk : k = l.length := by simpa using hk
    subst hk
    cases m with
    | zero => simp at hm
    | succ m =>
      refine iterF_inr ?_
      show r33_l6 n l a (Int.ofNat l.length) o = _
      unfold r33_l6
      refine (iff_nt (le_true (Nat.le_refl _))).trans ?_
      unfold ups row33
      cases o <;> simp [noO, rowsO, eqBl_self, iff_eq, andThen] <;> rfl
  | cons e r ih =>
    intro k m o hd hk ho hm
    have he : l[k]? = some e := by
      have : (l.drop k)[0]? = some e := by rw [hd]; rfl
      rwa [List.getElem?_drop, Nat.add_zero] at this
    rw [List.length_cons] at ho hk hm
    cases m with
    | zero => omega
    | succ m =>
      refine (iterF_inl (show r33_l6 n l a (Int.ofNat k) o = _ from r33_l6_eq n l a k o e he hl (by omega))).trans ?_
      have h1 := atA_len a (Int.ofNat k) e
      have h2 := atS_len a (Int.ofNat k) e
      refine (ih (k + 1) m _ (by rw [← List.drop_drop, hd]; rfl) (by omega) (by rw [rows_ups, List.length_append, List.length_append]; omega) (by omega)).trans ?_
      rw [ups_ups]
      rfl
/-- all points, in order of their entries -/
noncomputable def all33 (l : List (El t80)) : List Nat → List (El t82)
  | [] => []
  | a :: bs => row33 (Int.ofNat a) 0 l ++ all33 l bs
abbrev Y33 : Type := (List (El t80) × Unit × Int × Unit) × (Option (List (El t82)) × Unit) × Unit
theorem r33_out (n : Nat) (l : List (El t80)) (hl : l.length ≤ 130) (hn : 200 < n) : ∀ (bs : List Nat) (a m : Nat) (o : Option (List (El t82))), bs = List.range' a bs.length → a + bs.length = 120 → (rowsO o).length + 260 * bs.length ≤ 100000 → bs.length < m →
    iterF (fun (x : Y33) => r33_l3 n (Prod.fst (Prod.fst x)) (Prod.fst (Prod.snd (Prod.snd (Prod.fst x)))) (Prod.fst (Prod.fst (Prod.snd x)))) m ((l, PUnit.unit, Int.ofNat a, PUnit.unit), (o, PUnit.unit), PUnit.unit) =
      some (.inl ((PUnit.unit, PUnit.unit), (ups o (all33 l bs), PUnit.unit), PUnit.unit)) := by
  intro bs
  induction bs with
  | nil =>
    intro a m o _ ha _ hm
    have ha : a = 120 := by simpa using ha
    subst ha
    cases m with
    | zero => simp at hm
    | succ m =>
      refine iterF_inr ?_
      show r33_l3 n l (Int.ofNat 120) o = _
      unfold r33_l3
      refine (iff_nt (le_true (Nat.le_refl _))).trans ?_
      unfold ups all33
      cases o <;> simp [noO, rowsO, eqBl_self, iff_eq, andThen] <;> rfl
  | cons b bs ih =>
    intro a m o hr ha ho hm
    rw [List.length_cons] at hr ha ho hm
    rw [List.range'_succ] at hr
    injection hr with h1 h2
    subst h1
    have hrow := row33_len (Int.ofNat b) l 0
    cases m with
    | zero => omega
    | succ m =>
      have hs : r33_l3 n l (Int.ofNat b) o = some (.inl ((l, PUnit.unit, Int.ofNat (b + 1), PUnit.unit), (ups o (row33 (Int.ofNat b) 0 l), PUnit.unit), PUnit.unit)) := by
        unfold r33_l3
        refine (iff_nf (le_false (by omega))).trans ?_
        refine (andThen_of (a := Sum.inl ((l, PUnit.unit, Int.ofNat b, PUnit.unit), (ups o (row33 (Int.ofNat b) 0 l), PUnit.unit), PUnit.unit)) ?_).trans ?_
        · rw [again_keep]
          have h0 : (Nat.beq 3 3 && eqBl Bool.true Bool.true && (eqBl (noO o) (noO o) && (noO o || Nat.beq (List.length (rowsO o)) (List.length (rowsO o))))) = true := by
            rw [eqBl_self, eqBl_self, natBeq_self, natBeq_self]
            cases noO o <;> rfl
          refine (iff_t h0).trans ?_
          exact r33_in n l (Int.ofNat b) (by omega) l 0 n o rfl (by omega) (by omega) (by omega)
        · show r33_j4 n l (Int.ofNat b) (ups o (row33 (Int.ofNat b) 0 l)) = _
          unfold r33_j4
          have hw : wrapQ .i64 (Int.add (Int.ofNat b) (Int.ofNat 1)) = Int.ofNat (b + 1) := wrap_succ (by omega)
          rw [hw]
          cases ups o (row33 (Int.ofNat b) 0 l) <;> simp [noO, rowsO, eqBl_self, iff_eq]
      refine (iterF_inl hs).trans ?_
      refine (ih (b + 1) m _ h2 (by omega) (by rw [rows_ups, List.length_append]; omega) (by omega)).trans ?_
      rw [ups_ups]
      rfl
/-- the reference's points -/
noncomputable def pts33 (l : List (El t80)) : List (El t82) := all33 l (List.range' 0 120)
theorem r33_eq (n : Nat) (l : List (El t80)) (hl : l.length ≤ 130) (hn : 200 < n) : r33 n (l, PUnit.unit) = some (pts33 l, PUnit.unit) := by
  show r33c n l = _
  unfold r33c
  refine (andThen_of (r33_out n l hl hn (List.range' 0 120) 0 n none (by rw [List.length_range']) (by rw [List.length_range']) (by rw [List.length_range']; show 0 + _ ≤ _; omega) (by rw [List.length_range']; omega))).trans ?_
  show r33_j12 n (ups none (pts33 l)) = _
  have hr : rowsO (ups none (pts33 l)) = pts33 l := by rw [rows_ups]; rfl
  unfold r33_j12
  cases hf : ups none (pts33 l) with
  | none => rw [hf] at hr; rw [← hr]; rfl
  | some x =>
    rw [hf] at hr
    rw [← hr]
    simp [noO, rowsO, eqBl_self, iff_eq]
end L
end Go.Proofs.Ytlhagmgfffigfaa
