/- HistoryReads, plainly: the twin of events is the events. Conditions: the events are not great. -/
import Derived.Test.YtlhagmgfffigfaaHr
import Derived.Test.YtlhagmgfffigfaaL11
set_option maxRecDepth 100000
namespace Go.Proofs.Ytlhagmgfffigfaa
open Go Go.Abs
namespace L
theorem r11_j4_eq (n : Nat) (l : List (El t80)) (i : Int) (o : Option (List (El t80))) :
    r11_j4 n l i o = some (.inl ((l, PUnit.unit, wrapQ .i64 (Int.add i (Int.ofNat 1)), PUnit.unit), (o, PUnit.unit), PUnit.unit)) := by
  unfold r11_j4
  cases o <;> simp [noO, rowsO, eqBl_self, iff_eq]
theorem r11_j9_eq (n : Nat) (l : List (El t80)) (i : Int) (o : Option (List (El t80))) (y : El t80) (h : (rowsO o).length ≤ 1000) :
    r11_j9 n l i o y = some (.inl ((l, PUnit.unit, i, PUnit.unit), (up o y, PUnit.unit), PUnit.unit)) := by
  unfold r11_j9
  cases o <;> simp [noO, rowsO, iff_eq, addN_eq, up, appE] at h ⊢
  all_goals (repeat' apply And.intro)
  all_goals first | rfl | omega | exact (List.length_append (bs := [y])).symm
theorem r11_j8_eq (n : Nat) (l : List (El t80)) (i : Int) (o : Option (List (El t80))) (y : El t80) (h : (rowsO o).length ≤ 1000) (hh : y.2.2.2.2.2.2.2.2.2.2.2.1.2.2.2.2.2.1.length ≤ 60) :
    r11_j8 n l i o y = some (.inl ((l, PUnit.unit, i, PUnit.unit), (up o y, PUnit.unit), PUnit.unit)) := by
  unfold r11_j8
  refine (andThen_of (a := Sum.inl ((l, PUnit.unit, i, PUnit.unit, PUnit.unit), (o, PUnit.unit), y, PUnit.unit)) ?_).trans (r11_j9_eq n l i o y h)
  obtain ⟨e1, e2, e3, e4, e5, tk, b, a, s, sh, d, ⟨a1, a2, a3, a4, a5, hd, a7⟩, u⟩ := y
  have hh : hd.length ≤ 60 := hh
  dsimp only
  cases hd with
  | nil => cases o <;> simp [noO, rowsO, eqBl_self, iff_eq, isZ_eq] <;> rfl
  | cons z zs =>
    have hb : Nat.ble (Nat.mul (addN 0 (List.length (z :: zs))) 33) 1000000000 = true := ble_true (by rw [addN_eq]; show (0 + (z :: zs).length) * 33 ≤ _; omega)
    have hz : isZ (List.length (z :: zs)) = false := rfl
    rw [hz, hb]
    cases o <;> simp [noO, rowsO, eqBl_self, iff_eq, addN_eq] <;> rfl
theorem r11_j7_eq (n : Nat) (l : List (El t80)) (i : Int) (o : Option (List (El t80))) (y : El t80) (h : (rowsO o).length ≤ 1000) (hh : y.2.2.2.2.2.2.2.2.2.2.2.1.2.2.2.2.2.1.length ≤ 60) (hb : y.2.2.2.1.length ≤ 2500) :
    r11_j7 n l i o y = some (.inl ((l, PUnit.unit, i, PUnit.unit), (up o y, PUnit.unit), PUnit.unit)) := by
  unfold r11_j7
  refine (andThen_of (a := Sum.inl ((l, PUnit.unit, i, PUnit.unit, PUnit.unit), (o, PUnit.unit), y, PUnit.unit)) ?_).trans (r11_j8_eq n l i o y h hh)
  obtain ⟨e1, e2, e3, e4, rest⟩ := y
  have hb : e4.length ≤ 2500 := hb
  clear hh
  dsimp only
  cases e4 with
  | nil => cases o <;> simp [noO, rowsO, eqBl_self, iff_eq, isZ_eq] <;> rfl
  | cons z zs =>
    have hb : Nat.ble (Nat.mul (addN 0 (List.length (z :: zs))) 2) 1000000000 = true := ble_true (by rw [addN_eq]; show (0 + (z :: zs).length) * 2 ≤ _; omega)
    have hz : isZ (List.length (z :: zs)) = false := rfl
    rw [hz, hb]
    cases o <;> simp [noO, rowsO, eqBl_self, iff_eq, addN_eq] <;> rfl
/-- what is asked of an event -/
def Mid (y : El t80) : Prop := y.2.2.2.2.2.2.2.2.2.2.2.1.2.2.2.2.2.1.length ≤ 60 ∧ y.2.2.2.1.length ≤ 2500 ∧ y.2.2.1.2.1.length ≤ 2500
theorem r11_l3_eq (n : Nat) (l : List (El t80)) (k : Nat) (o : Option (List (El t80))) (y : El t80) (hk : l[k]? = some y) (hl : l.length ≤ 1000) (h : (rowsO o).length ≤ 1000) (hm : Mid y) :
    r11_l3 n l (Int.ofNat k) o = some (.inl ((l, PUnit.unit, Int.ofNat (k + 1), PUnit.unit), (up o y, PUnit.unit), PUnit.unit)) := by
  have hlt := (List.getElem?_eq_some_iff.1 hk).1
  unfold r11_l3
  refine (iff_nf (le_false hlt)).trans ?_
  refine (andThen_of (a := Sum.inl ((l, PUnit.unit, Int.ofNat k, PUnit.unit), (up o y, PUnit.unit), PUnit.unit)) ?_).trans ?_
  · refine (andThen_of (inRange_nat hlt)).trans ((andThen_of (nthQ_some hk)).trans ?_)
    refine (andThen_of (a := Sum.inl ((l, PUnit.unit, Int.ofNat k, PUnit.unit, PUnit.unit), (o, PUnit.unit), y, PUnit.unit)) ?_).trans (r11_j7_eq n l (Int.ofNat k) o y h hm.1 hm.2.1)
    have hb := hm.2.2
    clear hm hk
    obtain ⟨e1, e2, ⟨c1, c2, c3⟩, rest⟩ := y
    have hb : c2.length ≤ 2500 := hb
    dsimp only
    cases c2 with
    | nil => cases o <;> simp [noO, rowsO, eqBl_self, iff_eq, isZ_eq] <;> rfl
    | cons z zs =>
      have hb : Nat.ble (Nat.mul (addN 0 (List.length (z :: zs))) 2) 1000000000 = true := ble_true (by rw [addN_eq]; show (0 + (z :: zs).length) * 2 ≤ _; omega)
      have hz : isZ (List.length (z :: zs)) = false := rfl
      rw [hz, hb]
      cases o <;> simp [noO, rowsO, eqBl_self, iff_eq, addN_eq] <;> rfl
  · show r11_j4 n l (Int.ofNat k) (up o y) = _
    rw [r11_j4_eq, wrap_succ (by omega)]
theorem rows_up {α : Type} : ∀ (l : List α) (o : Option (List α)), rowsO (l.foldl (fun s a => up s a) o) = rowsO o ++ l
  | [], o => (List.append_nil _).symm
  | a :: l, o => by
    rw [List.foldl_cons, rows_up l (up o a)]
    show (rowsO o ++ [a]) ++ l = _
    rw [List.append_assoc]; rfl
theorem r11_eq (n : Nat) (l : List (El t80)) (hl : l.length ≤ 1000) (hm : ∀ y ∈ l, Mid y) (hn : l.length < n) : r11 n (l, PUnit.unit) = some (l, PUnit.unit) := by
  show r11c n l = _
  unfold r11c
  obtain ⟨h1, _⟩ := iterF_list (X := (List (El t80) × Unit × Int × Unit) × (Option (List (El t80)) × Unit) × Unit) (R := (Unit × Unit) × (Option (List (El t80)) × Unit) × Unit ⊕ List (El t80) × Unit)
    (body := fun x => r11_l3 n (Prod.fst (Prod.fst x)) (Prod.fst (Prod.snd (Prod.snd (Prod.fst x)))) (Prod.fst (Prod.fst (Prod.snd x)))) l
    (fun k (o : Option (List (El t80))) => ((l, PUnit.unit, Int.ofNat k, PUnit.unit), (o, PUnit.unit), PUnit.unit)) (fun s a => up s a) (fun o => .inl ((PUnit.unit, PUnit.unit), (o, PUnit.unit), PUnit.unit)) (fun k o => (rowsO o).length = k)
    (fun k y o hk hI => by
      have hlt := (List.getElem?_eq_some_iff.1 hk).1
      refine ⟨r11_l3_eq n l k o y hk hl (by omega) (hm y (List.mem_of_getElem? hk)), ?_⟩
      show (rowsO o ++ [y]).length = k + 1
      rw [List.length_append, hI]; rfl)
    (fun o _ => by
      show r11_l3 n l (Int.ofNat l.length) o = _
      unfold r11_l3
      refine (iff_nt (le_true (Nat.le_refl _))).trans ?_
      cases o <;> simp [noO, rowsO, eqBl_self, iff_eq, andThen]) n none rfl hn
  refine (andThen_of h1).trans ?_
  show r11_j10 n (l.foldl (fun s a => up s a) none) = _
  have hr := rows_up l none
  unfold r11_j10
  cases hf : l.foldl (fun s a => up s a) none with
  | none =>
    rw [hf] at hr
    have hr : [] = [] ++ l := hr
    simp [noO, rowsO, eqBl_self, iff_eq]
    simpa using hr
  | some x =>
    rw [hf] at hr
    have hr : x = [] ++ l := hr
    simp [noO, rowsO, eqBl_self, iff_eq]
    simpa using hr
end L
end Go.Proofs.Ytlhagmgfffigfaa
