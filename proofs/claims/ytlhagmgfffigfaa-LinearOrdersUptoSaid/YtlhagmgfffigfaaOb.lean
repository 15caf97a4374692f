/- LinearOrders, plainly, second part: the reference's word for an order that holds all points is the program's. Conditions: lists are short. -/
import Derived.Test.YtlhagmgfffigfaaOa
set_option maxRecDepth 100000
namespace Go.Proofs.Ytlhagmgfffigfaa
open Go Go.Abs
namespace L
theorem seek_const {α R : Type} (p : α → Bool) (h fin : R) : ∀ (l : List α) (k : Nat), seek p (fun _ => h) fin l k = iff (l.any p) h fin
  | [], _ => rfl
  | a :: l, k => by
    unfold seek
    rw [List.any_cons]
    cases p a with
    | true => rw [if_pos rfl]; rfl
    | false => rw [if_neg (by decide), Bool.false_or]; exact seek_const p h fin l (k + 1)
theorem seek_find {α R : Type} (p : α → Bool) (hit : Nat → R) (fin : R) : ∀ (l : List α) (k : Nat), (l.find? p = none ∧ seek p hit fin l k = fin) ∨ ∃ i a, l[i]? = some a ∧ l.find? p = some a ∧ seek p hit fin l k = hit (k + i)
  | [], _ => .inl ⟨rfl, rfl⟩
  | a :: l, k => by
    unfold seek
    cases hp : p a with
    | true => exact .inr ⟨0, a, rfl, List.find?_cons_of_pos hp, if_pos rfl⟩
    | false =>
      have hf : (a :: l).find? p = l.find? p := List.find?_cons_of_neg (by rw [hp]; decide)
      rw [hf, if_neg (by decide)]
      rcases seek_find p hit fin l (k + 1) with h | ⟨i, b, h1, h2, h3⟩
      · exact .inl h
      · exact .inr ⟨i + 1, b, h1, h2, by rw [h3, show k + 1 + i = k + (i + 1) by omega]⟩
/-- a point of this event and kind -/
noncomputable def isOf (ev kd : Int) (x : El t82) : Bool := and (eqQ x.2.1 ev) (eqQ x.2.2.1 kd)
theorem r53_eq (n : Nat) (p : List (El t82)) (ev kd : Int) (h : p.length ≤ 1000000) (hn : p.length < n) : r53 n (p, ev, kd, PUnit.unit) = some (seek (isOf ev kd) Int.ofNat (Int.negSucc 0) p 0, PUnit.unit) := by
  show r53c n p ev kd = _
  unfold r53c
  have h1 := iterF_seek (X := (List (El t82) × Int × Int × Int × Unit) × Unit × Unit) (R := Unit × Unit × Unit ⊕ Int × Unit) (body := fun x => r53_l2 n (Prod.fst (Prod.fst x)) (Prod.fst (Prod.snd (Prod.fst x))) (Prod.fst (Prod.snd (Prod.snd (Prod.fst x)))) (Prod.fst (Prod.snd (Prod.snd (Prod.snd (Prod.fst x)))))) p
    (fun k => ((p, ev, kd, Int.ofNat k, PUnit.unit), PUnit.unit, PUnit.unit)) (isOf ev kd) (fun i => .inr (Int.ofNat i, PUnit.unit)) (.inl (PUnit.unit, PUnit.unit, PUnit.unit))
    (fun k y hk => by
      have hlt := (List.getElem?_eq_some_iff.1 hk).1
      show r53_l2 n p ev kd (Int.ofNat k) = _
      unfold r53_l2
      refine (iff_nf (le_false hlt)).trans ?_
      have inner : ∀ b, isOf ev kd y = b → (andThen (inRange (Int.ofNat k) (List.length p)) fun (j7 : Nat) => andThen (nthQ j7 p) fun (y8 : El t82) =>
          iff (eqQ y8.2.1 ev) (andThen (inRange (Int.ofNat k) (List.length p)) fun (j9 : Nat) => andThen (nthQ j9 p) fun (y10 : El t82) =>
            Option.some (Sum.inl (α := (List (El t82) × Int × Int × Int × Bool × Unit) × Unit × Unit) (β := (List (El t82) × Int × Int × Int × Unit) × Unit × Unit ⊕ Unit × Unit × Unit ⊕ Int × Unit) ((p, ev, kd, Int.ofNat k, eqQ y10.2.2.1 kd, PUnit.unit), PUnit.unit, PUnit.unit)))
          (Option.some (Sum.inl ((p, ev, kd, Int.ofNat k, Bool.false, PUnit.unit), PUnit.unit, PUnit.unit)))) = some (Sum.inl ((p, ev, kd, Int.ofNat k, b, PUnit.unit), PUnit.unit, PUnit.unit)) := fun b hb => by
        refine (andThen_of (inRange_nat hlt)).trans ((andThen_of (nthQ_some hk)).trans ?_)
        cases hc : eqQ y.2.1 ev with
        | true =>
          refine (iff_t rfl).trans ((andThen_of (inRange_nat hlt)).trans ((andThen_of (nthQ_some hk)).trans ?_))
          have : eqQ y.2.2.1 kd = b := by rw [← hb]; show _ = and (eqQ y.2.1 ev) _; rw [hc]; rfl
          rw [this]
        | false =>
          refine (iff_f rfl).trans ?_
          have : false = b := by rw [← hb]; show _ = and (eqQ y.2.1 ev) _; rw [hc]; rfl
          rw [this]
      refine (andThen_of (inner _ rfl)).trans ?_
      show r53_j5 n p ev kd (Int.ofNat k) (isOf ev kd y) = _
      unfold r53_j5
      cases isOf ev kd y with
      | true => rfl
      | false => rw [wrap_succ (by omega)]; rfl)
    (by
      show r53_l2 n p ev kd (Int.ofNat p.length) = _
      exact iff_nt (le_true (Nat.le_refl _))) n hn
  refine (andThen_of h1).trans ?_
  rw [seek_map (isOf ev kd) _ _ (sumK (R := Int × Unit) fun (x : Unit × Unit × Unit) => r53_j6 n) p 0]
  rw [seek_map (isOf ev kd) Int.ofNat (Int.negSucc 0) (fun i => some (i, PUnit.unit)) p 0]
  rfl
/-- does the reference not find this point? -/
noncomputable def badQ (p : List (El t82)) (q : El t82) : Bool := @Option.rec (El t82) (fun _ => Bool) true (fun y => !eqE t82 y q) (p.find? (isOf q.2.1 q.2.2.1))
theorem r44_l5_eq (n : Nat) (p pts : List (El t82)) (hp : p.length ≤ 1000000) (hn : p.length < n) (k : Nat) (q : El t82) (hk : pts[k]? = some q) :
    r44_l5 n p pts (Int.ofNat k) = r44_j9 n p pts (Int.ofNat k) (badQ p q) := by
  have hlt := (List.getElem?_eq_some_iff.1 hk).1
  unfold r44_l5
  refine (iff_nf (le_false hlt)).trans ((andThen_of (inRange_nat hlt)).trans ((andThen_of (nthQ_some hk)).trans ((andThen_of (inRange_nat hlt)).trans ((andThen_of (nthQ_some hk)).trans ((andThen_of (r53_eq n p q.2.1 q.2.2.1 hp hn)).trans ?_)))))
  show andThen (iff (!leQ (Int.ofNat 0) (seek (isOf q.2.1 q.2.2.1) Int.ofNat (Int.negSucc 0) p 0)) _ (andThen (inRange (seek (isOf q.2.1 q.2.2.1) Int.ofNat (Int.negSucc 0) p 0) _) _)) _ = _
  rcases seek_find (isOf q.2.1 q.2.2.1) Int.ofNat (Int.negSucc 0) p 0 with ⟨h1, h2⟩ | ⟨i, a, h1, h2, h3⟩
  · rw [h2, show badQ p q = true by unfold badQ; rw [h1]]
    rfl
  · have hi := (List.getElem?_eq_some_iff.1 h1).1
    rw [h3, show badQ p q = !eqE t82 a q by unfold badQ; rw [h2], Nat.zero_add]
    refine (andThen_of (a := Sum.inl ((p, pts, Int.ofNat k, !eqE t82 a q, PUnit.unit), PUnit.unit, PUnit.unit)) ?_).trans rfl
    refine (iff_nt (le_true (Nat.zero_le _))).trans ((andThen_of (inRange_nat hi)).trans ((andThen_of (nthQ_some h1)).trans ((andThen_of (inRange_nat hlt)).trans ((andThen_of (nthQ_some hk)).trans rfl))))
/-- the reference's word -/
noncomputable def permQ (pts p : List (El t82)) : Bool := and (eqQ (Int.ofNat p.length) (Int.ofNat pts.length)) (!pts.any (badQ p))
theorem r44_perm (n : Nat) (hn : 100000 ≤ n) (l : List (El t80)) (p : List (El t82)) (hp : p.length < n) (hp2 : p.length ≤ 1000000) (hq : (points l).1.length < n) (hq2 : (points l).1.length ≤ 1000000) :
    r44 n (l, p, PUnit.unit) = some (permQ (points l).1 p, PUnit.unit) := by
  show r44c n l p = _
  unfold r44c
  refine (andThen_of (r13_points n hn l)).trans ?_
  unfold permQ
  cases hc : eqQ (Int.ofNat p.length) (Int.ofNat (points l).1.length) with
  | false => exact iff_nf rfl
  | true =>
    refine (iff_nt rfl).trans ?_
    have h1 := iterF_seek (X := (List (El t82) × List (El t82) × Int × Unit) × Unit × Unit) (R := Unit × Unit × Unit ⊕ Bool × Unit) (body := fun x => r44_l5 n (Prod.fst (Prod.fst x)) (Prod.fst (Prod.snd (Prod.fst x))) (Prod.fst (Prod.snd (Prod.snd (Prod.fst x))))) (points l).1
      (fun k => ((p, (points l).1, Int.ofNat k, PUnit.unit), PUnit.unit, PUnit.unit)) (badQ p) (fun _ => .inr (false, PUnit.unit)) (.inl (PUnit.unit, PUnit.unit, PUnit.unit))
      (fun k y hk => by
        have hlt := (List.getElem?_eq_some_iff.1 hk).1
        show r44_l5 n p (points l).1 (Int.ofNat k) = _
        rw [r44_l5_eq n p (points l).1 hp2 hp k y hk]
        unfold r44_j9
        cases badQ p y with
        | true => rfl
        | false => rw [wrap_succ (by omega)]; rfl)
      (by
        show r44_l5 n p (points l).1 (Int.ofNat (points l).1.length) = _
        exact iff_nt (le_true (Nat.le_refl _))) n hq
    refine (andThen_of h1).trans ?_
    rw [seek_const]
    show sumK _ (iff ((points l).1.any (badQ p)) _ _) = some (and true (!(points l).1.any (badQ p)), PUnit.unit)
    cases (points l).1.any (badQ p) <;> rfl
/-! ### both words are one -/
theorem nodup_perm {α : Type} : ∀ {l m : List α}, l.Nodup → (∀ x ∈ l, x ∈ m) → m.length = l.length → m.Perm l
  | [], m, _, _, h => by
    rw [List.eq_nil_of_length_eq_zero h]
  | x :: l, m, hn, hs, h => by
    rw [List.nodup_cons] at hn
    obtain ⟨a, b, rfl⟩ := List.append_of_mem (hs x (List.mem_cons_self ..))
    have hp : (a ++ x :: b).Perm (x :: (a ++ b)) := List.perm_middle
    refine hp.trans (List.Perm.cons x (nodup_perm hn.2 (fun y hy => ?_) ?_))
    · rcases List.mem_cons.1 (hp.mem_iff.1 (hs y (List.mem_cons_of_mem _ hy))) with h1 | h1
      · exact absurd (h1 ▸ hy) hn.1
      · exact h1
    · have := hp.length_eq
      rw [List.length_cons] at this h
      exact Nat.succ.inj (this.symm.trans h)
theorem eqQ_true (a b : Int) : eqQ a b = true ↔ a = b := by rw [eqQ_dec, decide_eq_true_eq]
theorem isOf_iff (ev kd : Int) (x : El t82) : isOf ev kd x = true ↔ x.2.1 = ev ∧ x.2.2.1 = kd := by
  unfold isOf
  rw [Bool.and_eq_true]
  exact and_congr (eqQ_true _ _) (eqQ_true _ _)
theorem permQ_iff {pts p : List (El t82)} (hn : pts.Nodup) (hk : ∀ x ∈ pts, ∀ y ∈ pts, x.2.1 = y.2.1 → x.2.2.1 = y.2.2.1 → x = y) : permQ pts p = true ↔ p.Perm pts := by
  unfold permQ
  rw [Bool.and_eq_true, eqQ_nat, decide_eq_true_eq, Bool.not_eq_true', List.any_eq_false]
  constructor
  · intro ⟨h1, h2⟩
    refine nodup_perm hn (fun q hq => ?_) h1
    have h3 := h2 q hq
    unfold badQ at h3
    cases hf : p.find? (isOf q.2.1 q.2.2.1) with
    | none => rw [hf] at h3; exact absurd rfl h3
    | some y =>
      rw [hf] at h3
      have h4 : eqE t82 y q = true := by
        have h3 : ¬ (!eqE t82 y q) = true := h3
        cases hc : eqE t82 y q with
        | true => rfl
        | false => rw [hc] at h3; exact absurd rfl h3
      rw [← (eP_iff y q).1 h4]
      exact List.mem_of_find?_eq_some hf
  · intro h
    refine ⟨h.length_eq, fun q hq => ?_⟩
    have hqp : q ∈ p := h.mem_iff.2 hq
    unfold badQ
    cases hf : p.find? (isOf q.2.1 q.2.2.1) with
    | none =>
      have := List.find?_eq_none.1 hf q hqp
      exact absurd ((isOf_iff _ _ _).2 ⟨rfl, rfl⟩) this
    | some y =>
      have h1 : isOf q.2.1 q.2.2.1 y = true := List.find?_some hf
      have h2 := (isOf_iff _ _ _).1 h1
      have h3 : y = q := hk y (h.mem_iff.1 (List.mem_of_find?_eq_some hf)) q hq h2.1 h2.2
      show ¬ (!eqE t82 y q) = true
      rw [(eP_iff y q).2 h3]
      decide
/-! ### the points of a good history -/
theorem pts_nodup {l : List (El t80)} (h : Good l) : (pts33 l).Nodup := (pts33_up h).imp fun hlt he => by rw [he] at hlt; omega
theorem pts_mem {l : List (El t80)} (h : Good l) {x : El t82} (hx : x ∈ pts33 l) : ∃ (i : Nat) (e : El t80), l[i]? = some e ∧ (x = (ac e, Int.ofNat i, Int.ofNat 1, PUnit.unit) ∨ x = (sh e, Int.ofNat i, Int.ofNat 2, PUnit.unit)) := by
  rw [← pts_same h] at hx
  have hx : x ∈ prow 0 l := List.mem_mergeSort.1 hx
  obtain ⟨i, e, h1, h2⟩ := mem_prow.1 hx
  rw [Nat.zero_add] at h2
  refine ⟨i, e, h1, ?_⟩
  rcases h2 with h2 | h2
  · exact .inl (mem_prA.1 h2).2
  · exact .inr (mem_prS.1 h2).2
theorem pts_key {l : List (El t80)} (h : Good l) : ∀ x ∈ pts33 l, ∀ y ∈ pts33 l, x.2.1 = y.2.1 → x.2.2.1 = y.2.2.1 → x = y := fun x hx y hy h1 h2 => by
  obtain ⟨i, e, a1, a2⟩ := pts_mem h hx
  obtain ⟨j, e', b1, b2⟩ := pts_mem h hy
  have hij : i = j := by
    have : (Int.ofNat i) = (Int.ofNat j) := by
      rcases a2 with rfl | rfl <;> rcases b2 with rfl | rfl <;> exact h1
    exact Int.ofNat.inj this
  subst hij
  rw [a1] at b1
  obtain rfl := Option.some.inj b1
  rcases a2 with rfl | rfl <;> rcases b2 with rfl | rfl
  · rfl
  · cases (show (Int.ofNat 1) = (Int.ofNat 2) from h2)
  · cases (show (Int.ofNat 2) = (Int.ofNat 1) from h2)
  · rfl
theorem perm_same {l : List (El t80)} (h : Good l) (p : List (El t82)) : permQ (pts33 l) p = permP (pts33 l) p := by
  rw [Bool.eq_iff_iff, permQ_iff (pts_nodup h) (pts_key h), permP_iff (pts_nodup h)]
end L
end Go.Proofs.Ytlhagmgfffigfaa
