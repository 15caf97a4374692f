/- What is the same is told so: lists of ints, answers. Conditions: no list is longer than 1048576. -/
import Derived.Test.YtlhagmgfffigfaaL29
import Derived.Test.YtlhagmgfffigfaaL8
import Derived.Test.YtlhagmgfffigfaaMachG
set_option maxRecDepth 100000
namespace Go.Proofs.Ytlhagmgfffigfaa
open Go Go.Abs
namespace L
/-- what an answer adds -/
noncomputable def up {α : Type} (o : Option (List α)) (y : α) : Option (List α) := some (rowsO o ++ [y])
theorem r8_self (n : Nat) (a : List Int) (h : a.length ≤ 1048576) (hn : a.length < n) : r8 n (a, a, PUnit.unit) = some (true, PUnit.unit) := by
  show r8c n a a = _
  unfold r8c
  rw [eqQ_self]
  obtain ⟨h1, _⟩ := iterF_list (X := (List Int × List Int × Int × Unit) × Unit × Unit) (R := Unit × Unit × Unit ⊕ Bool × Unit) (body := fun x => r8_l4 n (Prod.fst (Prod.fst x)) (Prod.fst (Prod.snd (Prod.fst x))) (Prod.fst (Prod.snd (Prod.snd (Prod.fst x))))) a
    (fun k (_ : Unit) => ((a, a, Int.ofNat k, PUnit.unit), PUnit.unit, PUnit.unit)) (fun s _ => s) (fun _ => .inl (PUnit.unit, PUnit.unit, PUnit.unit)) (fun _ _ => True)
    (fun k y s hk _ => ⟨by
      have hlt := (List.getElem?_eq_some_iff.1 hk).1
      show r8_l4 n a a (Int.ofNat k) = _
      unfold r8_l4
      refine (iff_nf (le_false hlt)).trans ((andThen_of (inRange_nat hlt)).trans ((andThen_of (nthQ_some hk)).trans ((andThen_of (inRange_nat hlt)).trans ((andThen_of (nthQ_some hk)).trans ((iff_nt (eqQ_self y)).trans ?_)))))
      rw [wrap_succ (by omega)], trivial⟩)
    (fun s _ => by
      show r8_l4 n a a (Int.ofNat a.length) = _
      exact iff_nt (le_true (Nat.le_refl _))) n () trivial hn
  rw [show iterF (fun (x : (List Int × List Int × Int × Unit) × Unit × Unit) => r8_l4 n (Prod.fst (Prod.fst x)) (Prod.fst (Prod.snd (Prod.fst x))) (Prod.fst (Prod.snd (Prod.snd (Prod.fst x))))) n ((a, a, Int.ofNat 0, PUnit.unit), PUnit.unit, PUnit.unit) = _ from h1]
  rfl
/-- the lists of an answer are of a length that is known -/
def Short (a : El t64) : Prop := a.2.2.2.2.2.1.length ≤ 1048576
theorem r29_self (n : Nat) (a : El t64) (h : Short a) (hn : 1048576 < n) : r29 n (a, a, PUnit.unit) = some (true, PUnit.unit) := by
  show r29c n a a = _
  unfold r29c
  refine (andThen_of ((iff_nt (eqQ_self _)).trans ((iff_nt (eqE_self (t := Ty.arr 32 (Ty.int Go.IntKind.u8)) rfl a.2.1)).trans ((iff_nt (eqQ_self _)).trans ((iff_nt (eqBl_self _)).trans ((iff_nt (eqE_self (t := t61) rfl a.2.2.2.2.1)).trans (iff_nt (eqQ_self _)))))))).trans ?_
  show r29_j2 n (!eqQ (Int.ofNat (List.length a.2.2.2.2.2.1)) (Int.ofNat (List.length a.2.2.2.2.2.1))) a a = _
  rw [eqQ_self]
  show r29_j2 n false a a = _
  unfold r29_j2
  have h : a.2.2.2.2.2.1.length ≤ 1048576 := h
  obtain ⟨h1, _⟩ := iterF_list (X := (Unit × Unit × Int × Unit) × Unit × El t64 × El t64 × Unit) (R := Unit × Unit × Unit ⊕ Bool × Unit) (body := fun x => r29_l4 n (Prod.fst (Prod.snd (Prod.snd (Prod.fst x)))) (Prod.fst (Prod.snd (Prod.snd x))) (Prod.fst (Prod.snd (Prod.snd (Prod.snd x))))) a.2.2.2.2.2.1
    (fun k (_ : Unit) => ((PUnit.unit, PUnit.unit, Int.ofNat k, PUnit.unit), PUnit.unit, a, a, PUnit.unit)) (fun s _ => s) (fun _ => .inl (PUnit.unit, PUnit.unit, PUnit.unit)) (fun _ _ => True)
    (fun k y s hk _ => ⟨by
      have hlt := (List.getElem?_eq_some_iff.1 hk).1
      show r29_l4 n (Int.ofNat k) a a = _
      unfold r29_l4
      refine (iff_nf (le_false hlt)).trans ((andThen_of (inRange_nat hlt)).trans ((andThen_of (nthQ_some hk)).trans ((andThen_of (inRange_nat hlt)).trans ((andThen_of (nthQ_some hk)).trans ((iff_nt (eqE_self (t := Ty.arr 32 (Ty.int Go.IntKind.u8)) rfl y)).trans ?_)))))
      rw [wrap_succ (by omega)], trivial⟩)
    (fun s _ => by
      show r29_l4 n (Int.ofNat a.2.2.2.2.2.1.length) a a = _
      exact iff_nt (le_true (Nat.le_refl _))) n () trivial (by omega)
  rw [show iterF (fun (x : (Unit × Unit × Int × Unit) × Unit × El t64 × El t64 × Unit) => r29_l4 n (Prod.fst (Prod.snd (Prod.snd (Prod.fst x)))) (Prod.fst (Prod.snd (Prod.snd x))) (Prod.fst (Prod.snd (Prod.snd (Prod.snd x))))) n ((PUnit.unit, PUnit.unit, Int.ofNat 0, PUnit.unit), PUnit.unit, a, a, PUnit.unit) = _ from h1]
  rfl
end L
end Go.Proofs.Ytlhagmgfffigfaa
