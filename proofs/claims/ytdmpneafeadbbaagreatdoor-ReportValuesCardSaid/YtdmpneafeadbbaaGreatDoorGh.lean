/- Texts of this claim, joined: each says ahead what it shows. Conditions: those of each contract. -/
import Derived.Test.YtdmpneafeadbbaaGreatDoorGg
import Derived.Test.YtdmpneafeadbbaaGreatDoorGa
set_option maxRecDepth 100000
set_option linter.unusedVariables false
namespace Go.Proofs.YtdmpneafeadbbaaGreatDoor
open Go Go.Abs Go.RowKit
namespace L
open Vl
theorem wrap_u8 {k : Nat} (h : k < 256) : wrapQ .u8 (Int.ofNat k) = Int.ofNat k := by
  show iff (Nat.ble k 255) (Int.ofNat k) _ = _
  rw [ble_true (by omega)]; rfl
theorem wrap_u8m (k : Nat) : wrapQ .u8 (Int.ofNat k) = Int.ofNat (k % 256) := by
  rw [wrapQ_eq, IntKind.wrap_u8]; rfl
theorem dec_small {u : Nat} (h : u < 10) : Lib.decDigits u = [UInt8.ofNat (48 + u)] := by rw [Lib.decDigits, dif_pos h]
theorem dec_big {u : Nat} (h : ¬ u < 10) : Lib.decDigits u = Lib.decDigits (u / 10) ++ [UInt8.ofNat (48 + u % 10)] := by rw [Lib.decDigits, dif_neg h]
theorem digit_eq (u : Nat) : toB [wrapQ Go.IntKind.u8 (wrapQ Go.IntKind.u64 (Int.add (Int.ofNat 48) (Int.tmod (Int.ofNat u) (Int.ofNat 10))))] = [UInt8.ofNat (48 + u % 10)] := by
  have h : Int.add (Int.ofNat 48) (Int.tmod (Int.ofNat u) (Int.ofNat 10)) = Int.ofNat (48 + u % 10) := rfl
  rw [h, wrap_u64 (by omega), wrap_u8 (by omega)]
  rfl
theorem tdiv10 (u : Nat) (h : u < 18446744073709551616) : wrapQ .u64 (Int.tdiv (Int.ofNat u) (Int.ofNat 10)) = Int.ofNat (u / 10) := by
  have e : Int.tdiv (Int.ofNat u) (Int.ofNat 10) = Int.ofNat (u / 10) := rfl
  rw [e, wrap_u64 (by omega)]
theorem r63_loop (n : Nat) : ∀ (f u : Nat) (out : List UInt8), u < 10 ^ f → u < 18446744073709551616 → out.length + f ≤ 1000000 →
    iterF (fun (x : (Int × List UInt8 × Unit) × Unit × Unit) => r63_l3 n (Prod.fst (Prod.fst x)) (Prod.fst (Prod.snd (Prod.fst x)))) (f + 1) ((Int.ofNat u, out, PUnit.unit), PUnit.unit, PUnit.unit) = some (.inl (((if u = 0 then [] else Lib.decDigits u) ++ out, PUnit.unit), PUnit.unit, PUnit.unit)) := by
  intro f
  induction f with
  | zero =>
    intro u out h _ _
    have : u = 0 := by simpa using h
    subst this
    exact iterF_inr (iff_nt (le_true (Nat.le_refl 0)))
  | succ f ih =>
    intro u out h hu hl
    by_cases h0 : u = 0
    · subst h0
      exact iterF_inr (iff_nt (le_true (Nat.le_refl 0)))
    · have hb : r63_l3 n (Int.ofNat u) out = some (.inl ((Int.ofNat (u / 10), [UInt8.ofNat (48 + u % 10)] ++ out, PUnit.unit), PUnit.unit, PUnit.unit)) := by
        unfold r63_l3
        rw [iff_nf (le_false (Nat.pos_of_ne_zero h0)), digit_eq, tdiv10 u hu]
        refine iff_t (ble_true ?_)
        show lenQ [UInt8.ofNat (48 + u % 10)] + lenQ out ≤ _
        rw [lenQ_eq, lenQ_eq]
        simp only [List.length_singleton]
        omega
      rw [iterF_inl (x' := ((Int.ofNat (u / 10), [UInt8.ofNat (48 + u % 10)] ++ out, PUnit.unit), PUnit.unit, PUnit.unit)) hb, ih (u / 10) _ (by rw [Nat.pow_succ] at h; omega) (by omega) (by simp; omega)]
      congr 4
      rw [if_neg h0]
      by_cases h1 : u < 10
      · rw [if_pos (by omega), dec_small h1, Nat.mod_eq_of_lt h1]; rfl
      · rw [if_neg (by omega), dec_big h1]
        simp
theorem r63_eq (n u : Nat) (hn : 21 ≤ n) (hu : u < 18446744073709551616) : r63 n (Int.ofNat u, PUnit.unit) = some (Lib.decDigits u, PUnit.unit) := by
  show andThen (iterF _ n ((wrapQ Go.IntKind.u64 (Int.tdiv (Int.ofNat u) (Int.ofNat 10)), toB [wrapQ Go.IntKind.u8 (wrapQ Go.IntKind.u64 (Int.add (Int.ofNat 48) (Int.tmod (Int.ofNat u) (Int.ofNat 10))))], PUnit.unit), PUnit.unit, PUnit.unit)) _ = _
  rw [digit_eq, tdiv10 u hu]
  have mono : ∀ (a b : Nat) x r, iterF (fun (x : (Int × List UInt8 × Unit) × Unit × Unit) => r63_l3 n (Prod.fst (Prod.fst x)) (Prod.fst (Prod.snd (Prod.fst x)))) a x = some r → a ≤ b → iterF (fun (x : (Int × List UInt8 × Unit) × Unit × Unit) => r63_l3 n (Prod.fst (Prod.fst x)) (Prod.fst (Prod.snd (Prod.fst x)))) b x = some r := by
    intro a
    induction a with
    | zero => intro b x r h; cases h
    | succ a ih =>
      intro b x r h hab
      cases b with
      | zero => omega
      | succ b =>
        cases hb : r63_l3 n (Prod.fst (Prod.fst x)) (Prod.fst (Prod.snd (Prod.fst x))) with
        | none =>
          have : andThen (r63_l3 n (Prod.fst (Prod.fst x)) (Prod.fst (Prod.snd (Prod.fst x)))) _ = some r := h
          rw [hb] at this; cases this
        | some y =>
          cases y with
          | inl x' => rw [iterF_inl hb] at h; rw [iterF_inl hb]; exact ih b x' r h (by omega)
          | inr q => rw [iterF_inr hb] at h; rw [iterF_inr hb]; exact h
  have h := r63_loop n 20 (u / 10) [UInt8.ofNat (48 + u % 10)] (by omega) (by omega) (by simp)
  rw [mono 21 n _ _ h hn]
  show some ((if u / 10 = 0 then [] else Lib.decDigits (u / 10)) ++ [UInt8.ofNat (48 + u % 10)], PUnit.unit) = _
  congr 2
  by_cases h1 : u < 10
  · rw [if_pos (by omega), dec_small h1, Nat.mod_eq_of_lt h1]; rfl
  · rw [if_neg (by omega), dec_big h1]
def nums (l : List UInt8) : List Int := l.map fun c => Int.ofNat c.toNat
theorem r65_run (x : Int) : r65 1000 (x, PUnit.unit) = some ([wrapQ .u8 (Int.fdiv x (Int.ofNat 72057594037927936)), wrapQ .u8 (Int.fdiv x (Int.ofNat 281474976710656)), wrapQ .u8 (Int.fdiv x (Int.ofNat 1099511627776)), wrapQ .u8 (Int.fdiv x (Int.ofNat 4294967296)), wrapQ .u8 (Int.fdiv x (Int.ofNat 16777216)), wrapQ .u8 (Int.fdiv x (Int.ofNat 65536)), wrapQ .u8 (Int.fdiv x (Int.ofNat 256)), wrapQ .u8 (Int.fdiv x (Int.ofNat 1))], PUnit.unit) := by kernel_rfl
theorem r65_eq (b : Nat) : r65 1000 (Int.ofNat b, PUnit.unit) = some (nums (be8 b), PUnit.unit) := by
  rw [r65_run]
  simp only [fdiv_nat, wrap_u8m]
  unfold nums be8
  simp
  rfl
theorem dig_nth (i : Nat) (h : i < 16) : nthQ i [UInt8.ofNat 48, UInt8.ofNat 49, UInt8.ofNat 50, UInt8.ofNat 51, UInt8.ofNat 52, UInt8.ofNat 53, UInt8.ofNat 54, UInt8.ofNat 55, UInt8.ofNat 56, UInt8.ofNat 57, UInt8.ofNat 97, UInt8.ofNat 98, UInt8.ofNat 99, UInt8.ofNat 100, UInt8.ofNat 101, UInt8.ofNat 102] = some (Bd.dig i) := by
  rw [nthQ_eq]
  have : ∀ i : Fin 16, [UInt8.ofNat 48, UInt8.ofNat 49, UInt8.ofNat 50, UInt8.ofNat 51, UInt8.ofNat 52, UInt8.ofNat 53, UInt8.ofNat 54, UInt8.ofNat 55, UInt8.ofNat 56, UInt8.ofNat 57, UInt8.ofNat 97, UInt8.ofNat 98, UInt8.ofNat 99, UInt8.ofNat 100, UInt8.ofNat 101, UInt8.ofNat 102][i.1]? = some (Bd.dig i.1) := by decide
  exact this ⟨i, h⟩
theorem toB_two (a b : UInt8) : toB [Int.ofNat a.toNat, Int.ofNat b.toNat] = [a, b] := by
  show [UInt8.ofNat a.toNat, UInt8.ofNat b.toNat] = _
  simp
theorem r64_eq (n : Nat) (bs : List UInt8) (hn : bs.length < n) (hl : bs.length ≤ 1000) : r64 n (nums bs, PUnit.unit) = some (Bd.hex bs, PUnit.unit) := by
  have h := iterF_list (X := (List Int × List UInt8 × Int × Unit) × Unit × Unit) (R := (List UInt8 × Unit) × Unit × Unit ⊕ List UInt8 × Unit)
    (body := fun x => r64_l3 n (Prod.fst (Prod.fst x)) (Prod.fst (Prod.snd (Prod.fst x))) (Prod.fst (Prod.snd (Prod.snd (Prod.fst x))))) bs (fun k (s : List UInt8) => ((nums bs, s, Int.ofNat k, PUnit.unit), PUnit.unit, PUnit.unit))
    (fun s c => s ++ [Bd.dig (c.toNat / 16), Bd.dig (c.toNat % 16)]) (fun s => .inl ((s, PUnit.unit), PUnit.unit, PUnit.unit)) (fun k s => s.length = 2 * k ∧ k ≤ 1000)
    (fun k c s hk hI => by
      have hlt := (List.getElem?_eq_some_iff.1 hk).1
      have hlt' : k < (nums bs).length := by unfold nums; rw [List.length_map]; exact hlt
      have hk' : (nums bs)[k]? = some (Int.ofNat c.toNat) := by unfold nums; rw [List.getElem?_map, hk]; rfl
      have hc := c.toNat_lt
      have e1 : Int.tdiv (Int.ofNat c.toNat) (Int.ofNat 16) = Int.ofNat (c.toNat / 16) := rfl
      have e2 : Int.tmod (Int.ofNat c.toNat) (Int.ofNat 16) = Int.ofNat (c.toNat % 16) := rfl
      refine ⟨?_, by rw [List.length_append]; simp; omega, by omega⟩
      show r64_l3 n (nums bs) s (Int.ofNat k) = _
      unfold r64_l3
      rw [iff_nf (le_false hlt'), inRange_nat hlt', andThen_st, nthQ_some hk', andThen_st, e1, wrap_u8 (by omega), inRange_nat (show c.toNat / 16 < 16 by omega), andThen_st, dig_nth _ (by omega), andThen_st, andThen_st]
      show andThen (nthQ k (nums bs)) _ = _
      rw [nthQ_some hk', andThen_st, e2, inRange_nat (show c.toNat % 16 < 16 by omega), andThen_st, dig_nth _ (by omega), andThen_st, toB_two]
      refine (iff_t (ble_true ?_)).trans ?_
      · show lenQ s + lenQ _ ≤ _
        rw [lenQ_eq, lenQ_eq]
        simp only [List.length_cons, List.length_nil]
        omega
      · rw [wrap_succ (by omega)]; rfl)
    (fun s hI => by
      show r64_l3 n (nums bs) s (Int.ofNat bs.length) = _
      unfold r64_l3
      have : (nums bs).length = bs.length := by unfold nums; rw [List.length_map]
      rw [this, iff_nt (le_true (Nat.le_refl _))]) n [] ⟨rfl, by decide⟩ hn
  have key : ∀ (l : List UInt8) (s : List UInt8), l.foldl (fun s c => s ++ [Bd.dig (c.toNat / 16), Bd.dig (c.toNat % 16)]) s = s ++ Bd.hex l := by
    intro l
    induction l with
    | nil => intro s; simp [Bd.hex]
    | cons c l ih => intro s; rw [List.foldl_cons, ih]; simp [Bd.hex]
  rw [key] at h
  show andThen _ _ = _
  rw [h.1]
  rfl
theorem upTo_nat {k m : Nat} (h : k ≤ m) : upTo (Int.ofNat k) m = some k := by
  show iff (Nat.ble k m) (some k) none = _
  rw [ble_true h]; rfl
theorem cut_one {l : List UInt8} {k : Nat} {c : UInt8} (h : l[k]? = some c) : cutL k (k + 1) l = [c] := by
  have hlt := (List.getElem?_eq_some_iff.1 h).1
  have e := (List.getElem?_eq_some_iff.1 h).2
  show (l.drop k).take (k + 1 - k) = _
  rw [List.drop_eq_getElem_cons hlt, e, show k + 1 - k = 1 by omega]; rfl
theorem esc_loop (n : Nat) (x : El t24) (l : List UInt8) (hx : x.2.2.2.1 = l) (hn : l.length < n) (hl : l.length ≤ 1000) :
    iterF (fun (x : (Unit × List UInt8 × Int × Unit) × Unit × El t24 × Unit) => r24_l10 n (Prod.fst (Prod.snd (Prod.fst x))) (Prod.fst (Prod.snd (Prod.snd (Prod.fst x)))) (Prod.fst (Prod.snd (Prod.snd x)))) n ((PUnit.unit, [UInt8.ofNat 116], Int.ofNat 0, PUnit.unit), PUnit.unit, x, PUnit.unit) = some (.inl ((116 :: Es.esc l, PUnit.unit), PUnit.unit, PUnit.unit)) := by
  have h := iterF_list (X := (Unit × List UInt8 × Int × Unit) × Unit × El t24 × Unit) (R := (List UInt8 × Unit) × Unit × Unit ⊕ List UInt8 × Unit)
    (body := fun x => r24_l10 n (Prod.fst (Prod.snd (Prod.fst x))) (Prod.fst (Prod.snd (Prod.snd (Prod.fst x)))) (Prod.fst (Prod.snd (Prod.snd x)))) l (fun k (s : List UInt8) => ((PUnit.unit, s, Int.ofNat k, PUnit.unit), PUnit.unit, x, PUnit.unit))
    (fun s c => s ++ Es.esc1 c) (fun s => .inl ((s, PUnit.unit), PUnit.unit, PUnit.unit)) (fun k s => s.length ≤ 1 + 2 * k ∧ k ≤ 1000)
    (fun k c s hk hI => by
      have hlt := (List.getElem?_eq_some_iff.1 hk).1
      have hc := c.toNat_lt
      have hle : (Es.esc1 c).length ≤ 2 := by
        have := Es.esc1_length c
        have := Es.cnt_le [c]
        simp only [List.length_singleton] at this
        omega
      refine ⟨?_, by rw [List.length_append]; omega, by omega⟩
      show r24_l10 n s (Int.ofNat k) x = _
      unfold r24_l10
      rw [hx, lenQ_eq, iff_nf (le_false hlt), inRange_nat hlt, andThen_st, nthQ_some hk, andThen_st, eqQ_nat]
      by_cases h32 : c.toNat = 32
      · have hc : c = 32 := UInt8.toNat_inj.1 h32
        subst hc
        refine (andThen_of (a := Sum.inl ((PUnit.unit, s ++ [92, 115], Int.ofNat k, PUnit.unit), PUnit.unit, x, PUnit.unit)) ?_).trans ?_
        · refine (iff_t (by decide)).trans ((iff_t (ble_true ?_)).trans rfl)
          rw [lenQ_eq]; show s.length + 2 ≤ _; omega
        · rw [sumK_inl]
          show r24_j11 n (s ++ [92, 115]) (Int.ofNat k) x = _
          unfold r24_j11
          rw [wrap_succ (by omega)]; rfl
      · rw [decide_eq_false h32]
        by_cases h92 : c.toNat = 92
        · have hc : c = 92 := UInt8.toNat_inj.1 h92
          subst hc
          refine (andThen_of (a := Sum.inl ((PUnit.unit, s ++ [92, 92], Int.ofNat k, PUnit.unit), PUnit.unit, x, PUnit.unit)) ?_).trans ?_
          · refine (iff_f rfl).trans ((iff_t (by rw [eqQ_nat]; decide)).trans ((iff_t (ble_true ?_)).trans rfl))
            rw [lenQ_eq]; show s.length + 2 ≤ _; omega
          · rw [sumK_inl]
            show r24_j11 n (s ++ [92, 92]) (Int.ofNat k) x = _
            unfold r24_j11
            rw [wrap_succ (by omega)]; rfl
        · have e1 : Es.esc1 c = [c] := by
            unfold Es.esc1
            rw [if_neg (fun h => h32 (by rw [h]; rfl)), if_neg (fun h => h92 (by rw [h]; rfl))]
          refine (andThen_of (a := Sum.inl ((PUnit.unit, s ++ [c], Int.ofNat k, PUnit.unit), PUnit.unit, x, PUnit.unit)) ?_).trans ?_
          · refine (iff_f rfl).trans ((iff_f (by rw [eqQ_nat]; exact decide_eq_false h92)).trans ?_)
            rw [wrap_succ (by omega), upTo_nat (show k + 1 ≤ l.length by omega), andThen_st, upTo_nat (Nat.le_succ k), andThen_st, cut_one hk]
            refine (iff_t (ble_true ?_)).trans rfl
            rw [lenQ_eq]; show s.length + 1 ≤ _; omega
          · rw [sumK_inl]
            show r24_j11 n (s ++ [c]) (Int.ofNat k) x = _
            unfold r24_j11
            rw [wrap_succ (by omega), e1])
    (fun s hI => by
      show r24_l10 n s (Int.ofNat l.length) x = _
      unfold r24_l10
      rw [hx, lenQ_eq, iff_nt (le_true (Nat.le_refl _))]) n [116] ⟨by simp, by decide⟩ hn
  have key : ∀ (l : List UInt8) (s : List UInt8), l.foldl (fun s c => s ++ Es.esc1 c) s = s ++ Es.esc l := by
    intro l
    induction l with
    | nil => intro s; simp [Es.esc]
    | cons c l ih => intro s; rw [List.foldl_cons, ih]; simp [Es.esc]
  rw [key] at h
  exact h.1
theorem txt1 (m : Int) (b : Nat) (l : List UInt8) : txt 1 m b l = 110 :: Lib.itoa m := rfl
theorem txt2 (m : Int) (b : Nat) (l : List UInt8) : txt 2 m b l = 102 :: Bd.hex (be8 b) := rfl
theorem txt3 (m : Int) (b : Nat) (l : List UInt8) : txt 3 m b l = 116 :: Es.esc l := rfl
theorem dec_len (u : Nat) (hu : u < 18446744073709551616) : (Lib.decDigits u).length ≤ 20 := by
  have key : ∀ (f u : Nat), u < 10 ^ (f + 1) → (Lib.decDigits u).length ≤ f + 1 := by
    intro f
    induction f with
    | zero => intro u h; rw [dec_small (by simpa using h)]; simp
    | succ f ih =>
      intro u h
      by_cases h1 : u < 10
      · rw [dec_small h1]; simp
      · rw [dec_big h1, List.length_append, List.length_singleton]
        have := ih (u / 10) (by rw [Nat.pow_succ] at h; omega)
        omega
  exact key 19 u (by omega)
theorem okv_kind {k m : Int} {b : Nat} {l : List UInt8} (h : okv k m b l = true) : k = 1 ∨ k = 2 ∨ (k = 3 ∧ l.length ≤ 30) := by
  unfold okv at h
  by_cases h1 : k = 1
  · exact .inl h1
  · by_cases h2 : k = 2
    · exact .inr (.inl h2)
    · by_cases h3 : k = 3
      · rw [if_neg h1, if_neg h2, if_pos h3] at h
        simp only [Bool.and_eq_true, decide_eq_true_eq] at h
        exact .inr (.inr ⟨h3, h.1.2⟩)
      · rw [if_neg h1, if_neg h2, if_neg h3] at h; cases h
theorem neg_u64 {m : Int} (h : m < 0) (h0 : -9223372036854775808 ≤ m) : wrapQ .u64 (Int.neg (wrapQ .u64 m)) = Int.ofNat m.natAbs := by
  rw [wrapQ_eq, wrapQ_eq, IntKind.wrap_u64, IntKind.wrap_u64]
  show (-(m % 18446744073709551616)) % 18446744073709551616 = (m.natAbs : Int)
  omega
theorem pos_u64 {m : Int} (h : 0 ≤ m) (h0 : m ≤ 9223372036854775807) : wrapQ .u64 m = Int.ofNat m.toNat := by
  rw [wrapQ_eq, IntKind.wrap_u64]
  show m % 18446744073709551616 = (m.toNat : Int)
  omega
attribute [local irreducible] r65 r64 r63 in
theorem r24_eq (k m : Int) (b : Nat) (l : List UInt8) (h : okv k m b l = true) (h0 : -9223372036854775808 ≤ m) (h1 : m ≤ 9223372036854775807) : r24 1000 (mk k m b l, PUnit.unit) = some (txt k m b l, PUnit.unit) := by
  show r24c 1000 (mk k m b l) = _
  rcases okv_kind h with rfl | rfl | ⟨rfl, hl⟩
  · rw [txt1]
    show iff (!leQ (Int.ofNat 0) m) _ _ = _
    by_cases hm : 0 ≤ m
    · rw [leQ_dec, decide_eq_true (show Int.ofNat 0 ≤ m from hm)]
      show andThen (r63 1000 (wrapQ .u64 m, PUnit.unit)) _ = _
      rw [pos_u64 hm h1, r63_eq 1000 _ (by decide) (by omega)]
      have hd := dec_len m.toNat (by omega)
      refine (iff_t (ble_true ?_)).trans ?_
      · show 1 + lenQ (Lib.decDigits m.toNat) ≤ _
        rw [lenQ_eq]; omega
      · unfold Lib.itoa
        rw [if_neg (by omega)]; rfl
    · rw [leQ_dec, decide_eq_false (show ¬ Int.ofNat 0 ≤ m from hm)]
      show andThen (r63 1000 (wrapQ .u64 (Int.neg (wrapQ .u64 m)), PUnit.unit)) _ = _
      rw [neg_u64 (by omega) h0, r63_eq 1000 _ (by decide) (by omega)]
      have hd := dec_len m.natAbs (by omega)
      refine (iff_t (ble_true ?_)).trans ?_
      · show 2 + lenQ (Lib.decDigits m.natAbs) ≤ _
        rw [lenQ_eq]; omega
      · unfold Lib.itoa
        rw [if_pos (by omega)]; rfl
  · rw [txt2]
    show andThen (r65 1000 (Int.ofNat b, PUnit.unit)) _ = _
    rw [r65_eq]
    show andThen (r64 1000 (nums (be8 b), PUnit.unit)) _ = _
    have hz : (be8 b).length = 8 := rfl
    rw [r64_eq 1000 (be8 b) (by rw [hz]; decide) (by rw [hz]; decide)]
    show iff (Nat.ble (Nat.add 1 (lenQ (Bd.hex (be8 b)))) 1000000000) (some (appU [UInt8.ofNat 102] (Bd.hex (be8 b)), PUnit.unit)) none = _
    refine (iff_t (ble_true ?_)).trans rfl
    show 1 + lenQ (Bd.hex (be8 b)) ≤ _
    rw [lenQ_eq, Bd.hex_length, hz]; decide
  · rw [txt3]
    show andThen (iterF _ 1000 ((PUnit.unit, [UInt8.ofNat 116], Int.ofNat 0, PUnit.unit), PUnit.unit, mk 3 m b l, PUnit.unit)) _ = _
    rw [esc_loop 1000 (mk 3 m b l) l rfl (by omega) (by omega)]
    rfl
attribute [local irreducible] r24 r11 in
theorem r7_eq (k m : Int) (b : Nat) (l : List UInt8) (hb : b < 18446744073709551616) (h0 : -9223372036854775808 ≤ m) (h1 : m ≤ 9223372036854775807) (hl : l.length ≤ 500) :
    r7 1000 (mk k m b l, PUnit.unit) = some (if okv k m b l = true then (txt k m b l, Int.ofNat 0, PUnit.unit) else ([], Int.ofNat 8, PUnit.unit)) := by
  show andThen (r11 1000 (mk k m b l, PUnit.unit)) _ = _
  have h11 : r11 1000 (mk k m b l, PUnit.unit) = _ := r11_eq 1000 k m b l hb (by omega) (by omega)
  rw [h11]
  cases ho : okv k m b l with
  | false => rfl
  | true =>
    show andThen (r24 1000 (mk k m b l, PUnit.unit)) _ = _
    rw [r24_eq k m b l ho h0 h1]; rfl
end L
end Go.Proofs.YtdmpneafeadbbaaGreatDoor
set_option maxRecDepth 100000
set_option linter.unusedVariables false
namespace Go.Proofs.YtdmpneafeadbbaaGreatDoor
open Go Go.Abs Go.RowKit
namespace L
open Vl
def st28 (a : Nat) (c : UInt8) : Nat := (10 * a % 18446744073709551616 + (c.toNat - 48)) % 18446744073709551616
def dec28 : Nat → List UInt8 → Option Nat
  | a, [] => some a
  | a, c :: l => if c.toNat < 48 ∨ 57 < c.toNat then none else dec28 (st28 a c) l
theorem st28_eq (a : Nat) (c : UInt8) (h : 48 ≤ c.toNat) : wrapQ Go.IntKind.u64 (Int.add (wrapQ Go.IntKind.u64 (Int.mul (Int.ofNat 10) (Int.ofNat a))) (wrapQ Go.IntKind.u64 (wrapQ Go.IntKind.u8 (Int.sub (Int.ofNat c.toNat) (Int.ofNat 48))))) = Int.ofNat (st28 a c) := by
  have hc := c.toNat_lt
  have e1 : Int.sub (Int.ofNat c.toNat) (Int.ofNat 48) = Int.ofNat (c.toNat - 48) := by show (c.toNat : Int) - 48 = ((c.toNat - 48 : Nat) : Int); omega
  have e2 : Int.mul (Int.ofNat 10) (Int.ofNat a) = Int.ofNat (10 * a) := rfl
  have m : ∀ k : Nat, wrapQ .u64 (Int.ofNat k) = Int.ofNat (k % 18446744073709551616) := fun k => by rw [wrapQ_eq, IntKind.wrap_u64]; rfl
  rw [e1, e2, wrap_u8 (by omega), m, m]
  have e3 : Int.add (Int.ofNat (10 * a % 18446744073709551616)) (Int.ofNat ((c.toNat - 48) % 18446744073709551616)) = Int.ofNat (10 * a % 18446744073709551616 + (c.toNat - 48) % 18446744073709551616) := rfl
  rw [e3, m, Nat.mod_eq_of_lt (show c.toNat - 48 < 18446744073709551616 by omega)]
  rfl
theorem loop28 (n : Nat) (l : List UInt8) (lim : Int) (hn : l.length < n) (hl : l.length ≤ 1000) :
    iterF (fun (x : (List UInt8 × Int × Int × Int × Unit) × Unit × Unit) => r28_l5 n (Prod.fst (Prod.fst x)) (Prod.fst (Prod.snd (Prod.fst x))) (Prod.fst (Prod.snd (Prod.snd (Prod.fst x)))) (Prod.fst (Prod.snd (Prod.snd (Prod.snd (Prod.fst x))))))
      n ((l, lim, Int.ofNat 0, Int.ofNat 0, PUnit.unit), PUnit.unit, PUnit.unit) = some (match dec28 0 l with | some v => .inl ((lim, Int.ofNat v, PUnit.unit), PUnit.unit, PUnit.unit) | none => .inr (Int.ofNat 0, false, PUnit.unit)) := by
  have h := iterF_fold (X := (List UInt8 × Int × Int × Int × Unit) × Unit × Unit) (R := (Int × Int × Unit) × Unit × Unit ⊕ Int × Bool × Unit)
    (body := fun x => r28_l5 n (Prod.fst (Prod.fst x)) (Prod.fst (Prod.snd (Prod.fst x))) (Prod.fst (Prod.snd (Prod.snd (Prod.fst x)))) (Prod.fst (Prod.snd (Prod.snd (Prod.snd (Prod.fst x))))))
    l (fun k (a : Nat) => ((l, lim, Int.ofNat a, Int.ofNat k, PUnit.unit), PUnit.unit, PUnit.unit)) (fun _ a c => if c.toNat < 48 ∨ 57 < c.toNat then .inr (.inr (Int.ofNat 0, false, PUnit.unit)) else .inl (st28 a c))
    (fun a => .inl ((lim, Int.ofNat a, PUnit.unit), PUnit.unit, PUnit.unit)) (fun _ _ => True)
    (fun k c a hk _ => by
      have hlt := (List.getElem?_eq_some_iff.1 hk).1
      refine ⟨?_, fun _ _ => trivial⟩
      show r28_l5 n l lim (Int.ofNat a) (Int.ofNat k) = _
      unfold r28_l5
      rw [lenQ_eq, iff_nf (le_false hlt), inRange_nat hlt, andThen_st, nthQ_some hk, andThen_st, leQ_nat]
      by_cases h1 : 48 ≤ c.toNat
      · rw [decide_eq_true h1]
        show andThen (andThen (some k) fun j => andThen (nthQ j l) _) _ = _
        rw [andThen_st, nthQ_some hk, andThen_st, leQ_nat, andThen_st, sumK_inl]
        show r28_j8 n l lim (Int.ofNat a) (Int.ofNat k) (!decide (c.toNat ≤ 57)) = _
        unfold r28_j8
        by_cases h2 : c.toNat ≤ 57
        · rw [decide_eq_true h2, if_neg (by omega)]
          show andThen (inRange (Int.ofNat k) (lenQ l)) _ = _
          rw [lenQ_eq, inRange_nat hlt, andThen_st, nthQ_some hk, andThen_st, st28_eq a c h1, wrap_succ (by omega)]
          rfl
        · rw [decide_eq_false h2, if_pos (by omega)]; rfl
      · rw [decide_eq_false h1, if_pos (by omega)]; rfl)
    (fun a _ => by
      show r28_l5 n l lim (Int.ofNat a) (Int.ofNat l.length) = _
      unfold r28_l5
      rw [lenQ_eq, iff_nt (le_true (Nat.le_refl _))]) n 0 trivial hn
  refine h.trans (congrArg some ?_)
  have key : ∀ (l : List UInt8) (k a : Nat), foldS (S := Nat) (R := (Int × Int × Unit) × Unit × Unit ⊕ Int × Bool × Unit) (fun _ a (c : UInt8) => if c.toNat < 48 ∨ 57 < c.toNat then .inr (.inr (Int.ofNat 0, false, PUnit.unit)) else .inl (st28 a c))
      (fun a => .inl ((lim, Int.ofNat a, PUnit.unit), PUnit.unit, PUnit.unit)) l k a = (match dec28 a l with | some v => .inl ((lim, Int.ofNat v, PUnit.unit), PUnit.unit, PUnit.unit) | none => .inr (Int.ofNat 0, false, PUnit.unit)) := by
    intro l
    induction l with
    | nil => intro k a; rfl
    | cons c l ih =>
      intro k a
      unfold foldS dec28
      by_cases hc : c.toNat < 48 ∨ 57 < c.toNat
      · rw [if_pos hc, if_pos hc]
      · rw [if_neg hc, if_neg hc]; exact ih _ _
  exact key l 0 0
def d28 (l : List UInt8) : Nat := if l.length < 1 ∨ 19 < l.length ∨ (1 < l.length ∧ l.head? = some 48) then 0 else (dec28 0 l).getD 0
theorem r28_eq (l : List UInt8) (lim : Int) : ∃ f, r28 1000 (l, lim, PUnit.unit) = some (Int.ofNat (d28 l), f, PUnit.unit) := by
  have hj : l.length ≤ 19 → ∃ f, r28_j2 1000 l lim false = some (Int.ofNat ((dec28 0 l).getD 0), f, PUnit.unit) := fun h19 => by
    unfold r28_j2
    show ∃ f, andThen (iterF _ 1000 _) _ = _
    rw [loop28 1000 l lim (by omega) (by omega), andThen_st]
    cases dec28 0 l with
    | none => exact ⟨_, rfl⟩
    | some v => exact ⟨_, rfl⟩
  show ∃ f, r28c 1000 l lim = _
  unfold r28c d28
  rw [lenQ_eq, leQ_nat, leQ_nat, leQ_nat]
  by_cases h1 : l.length < 1
  · rw [if_pos (.inl h1), decide_eq_false (show ¬ 1 ≤ l.length by omega)]; exact ⟨_, rfl⟩
  · rw [decide_eq_true (show 1 ≤ l.length by omega)]
    by_cases h19 : 19 < l.length
    · rw [if_pos (.inr (.inl h19)), decide_eq_false (show ¬ l.length ≤ 19 by omega)]; exact ⟨_, rfl⟩
    · rw [decide_eq_true (show l.length ≤ 19 by omega)]
      cases l with
      | nil => simp at h1
      | cons c r =>
        by_cases h2 : 1 < (c :: r).length
        · rw [decide_eq_false (show ¬ (c :: r).length ≤ 1 by omega)]
          show ∃ f, andThen (some (Sum.inl ((c :: r, lim, eqQ (Int.ofNat c.toNat) (Int.ofNat 48), PUnit.unit), PUnit.unit, PUnit.unit))) _ = _
          rw [andThen_st, sumK_inl, eqQ_nat]
          show ∃ f, r28_j2 1000 (c :: r) lim (decide (c.toNat = 48)) = _
          by_cases h3 : c.toNat = 48
          · rw [decide_eq_true h3, if_pos (.inr (.inr ⟨h2, congrArg some (UInt8.toNat_inj.1 h3)⟩))]; exact ⟨_, rfl⟩
          · rw [decide_eq_false h3, if_neg (fun h => by
              rcases h with h | h | h
              · exact h1 h
              · exact h19 h
              · exact h3 (by have := Option.some.inj h.2; rw [this]; rfl))]
            exact hj (by omega)
        · rw [decide_eq_true (show (c :: r).length ≤ 1 by omega), if_neg (fun h => by
              rcases h with h | h | h
              · exact h1 h
              · exact h19 h
              · exact h2 h.1)]
          exact hj (by omega)
theorem dec28_append : ∀ (l : List UInt8) (a v : Nat) (c : UInt8), dec28 a l = some v → 48 ≤ c.toNat → c.toNat ≤ 57 → dec28 a (l ++ [c]) = some (st28 v c)
  | [], a, v, c, h, h1, h2 => by
    cases h
    show dec28 a [c] = _
    rw [dec28, if_neg (by omega)]; rfl
  | d :: l, a, v, c, h, h1, h2 => by
    rw [dec28] at h
    show dec28 a (d :: (l ++ [c])) = _
    rw [dec28]
    split at h
    · cases h
    · rename_i hd
      rw [if_neg hd]
      exact dec28_append l _ v c h h1 h2
theorem ofNat_digit (u : Nat) (h : u < 10) : (UInt8.ofNat (48 + u)).toNat = 48 + u := by simp; omega
theorem dec28_dec : ∀ (u : Nat), u < 18446744073709551616 → dec28 0 (Lib.decDigits u) = some u := by
  intro u
  induction u using Nat.strongRecOn with
  | _ u ih =>
    intro hu
    by_cases h : u < 10
    · rw [dec_small h, dec28, ofNat_digit u h, if_neg (by omega), dec28]
      congr 1
      unfold st28
      rw [ofNat_digit u h]; omega
    · rw [dec_big h, dec28_append _ _ (u / 10) _ (ih (u / 10) (by omega) (by omega)) (by rw [ofNat_digit _ (by omega)]; omega) (by rw [ofNat_digit _ (by omega)]; omega)]
      congr 1
      unfold st28
      rw [ofNat_digit _ (by omega)]; omega
theorem dec_ne (u : Nat) : Lib.decDigits u ≠ [] := by
  by_cases h : u < 10
  · rw [dec_small h]; simp
  · rw [dec_big h]; simp
theorem dec_head : ∀ (u : Nat), 0 < u → (Lib.decDigits u).head? ≠ some 48 := by
  intro u
  induction u using Nat.strongRecOn with
  | _ u ih =>
    intro hu
    by_cases h : u < 10
    · rw [dec_small h]
      intro he
      have := congrArg UInt8.toNat (Option.some.inj he)
      rw [ofNat_digit u h] at this
      have h48 : (48 : UInt8).toNat = 48 := rfl
      omega
    · have h2 := ih (u / 10) (by omega) (by omega)
      rw [dec_big h]
      cases hd : Lib.decDigits (u / 10) with
      | nil => exact absurd hd (dec_ne _)
      | cons a r => rw [hd] at h2; exact h2
theorem dec_len19 (u : Nat) (hu : u < 10000000000000000000) : (Lib.decDigits u).length ≤ 19 := by
  have key : ∀ (f u : Nat), u < 10 ^ (f + 1) → (Lib.decDigits u).length ≤ f + 1 := by
    intro f
    induction f with
    | zero => intro u h; rw [dec_small (by simpa using h)]; simp
    | succ f ih =>
      intro u h
      by_cases h1 : u < 10
      · rw [dec_small h1]; simp
      · rw [dec_big h1, List.length_append, List.length_singleton]
        have := ih (u / 10) (by rw [Nat.pow_succ] at h; omega)
        omega
  exact key 18 u (by omega)
theorem d28_dec (u : Nat) (hu : u ≤ 9223372036854775808) : d28 (Lib.decDigits u) = u := by
  unfold d28
  have h1 : 1 ≤ (Lib.decDigits u).length := List.length_pos_iff.2 (dec_ne u)
  have h2 := dec_len19 u (by omega)
  rw [if_neg (fun h => by
    rcases h with h | h | ⟨h, h'⟩
    · omega
    · omega
    · by_cases h0 : u = 0
      · subst h0; rw [dec_small (by decide)] at h; simp at h
      · exact dec_head u (by omega) h'), dec28_dec u (by omega)]
  rfl
def hv (c : UInt8) : Nat := if 48 ≤ c.toNat ∧ c.toNat ≤ 57 then c.toNat - 48 else if 97 ≤ c.toNat ∧ c.toNat ≤ 102 then c.toNat - 87 else 16
theorem r69_eq (n : Nat) (c : UInt8) : r69 n (Int.ofNat c.toNat, PUnit.unit) = some (Int.ofNat (hv c), PUnit.unit) := by
  have key : ∀ i : Fin 256, r69c 0 (Int.ofNat i.1) = some (Int.ofNat (if 48 ≤ i.1 ∧ i.1 ≤ 57 then i.1 - 48 else if 97 ≤ i.1 ∧ i.1 ≤ 102 then i.1 - 87 else 16), PUnit.unit) := by decide +kernel
  exact key ⟨c.toNat, c.toNat_lt⟩
def pairs : List UInt8 → Option (List UInt8)
  | [] => some []
  | [_] => some []
  | a :: b :: r => if 15 < hv a ∨ 15 < hv b then none else (pairs r).map (UInt8.ofNat (16 * hv a + hv b) :: ·)
def up {α : Type} (o : Option (List α)) (x : α) : Option (List α) := some (match o with | none => [x] | some l => l ++ [x])
theorem rows_up1 {α : Type} (o : Option (List α)) (x : α) : rowsO (up o x) = rowsO o ++ [x] := by cases o <;> rfl
theorem grow_o {t : Ty} {A : Type} (z m : Nat) (o : Option (List (El t))) (x : El t) (F : Option (List (El t)) → Option A) (h : ((rowsO o).length + 1) * m ≤ 1000000000) :
    iff (noO o) (F (some [x])) (iff (!noO o && (Nat.beq z z && Nat.beq (Nat.add (Nat.mul (List.length (rowsO o)) z) 0) (Nat.mul (List.length (rowsO o)) z)))
      (iff (Nat.ble (Nat.mul (addN (List.length (rowsO o)) 1) m) 1000000000 && Bool.true && Bool.true)
        (iff (Nat.beq z z && (!noO (some (appE t (rowsO o) [x])) && Nat.beq (addN (List.length (rowsO o)) 1) (List.length (rowsO (some (appE t (rowsO o) [x])))))) (F (some (appE t (rowsO o) [x]))) none) none) none) = F (up o x) := by
  cases o with
  | none => rfl
  | some v =>
    have h : (v.length + 1) * m ≤ 1000000000 := h
    refine (iff_f rfl).trans ((iff_t ?_).trans ((iff_t ?_).trans ((iff_t ?_).trans rfl)))
    · show (Nat.beq z z && Nat.beq (Nat.add (Nat.mul v.length z) 0) (Nat.mul v.length z)) = true
      rw [natBeq_self]
      exact natBeq_self _
    · show (Nat.ble (Nat.mul (addN v.length 1) m) 1000000000 && true && true) = true
      rw [addN_eq, ble_true (show Nat.mul (v.length + 1) m ≤ 1000000000 from h)]; rfl
    · show (Nat.beq z z && Nat.beq (addN v.length 1) (List.length (v ++ [x]))) = true
      rw [addN_eq, List.length_append, natBeq_self]
      exact natBeq_self _
theorem keep_o {α A : Type} (o : Option (List α)) (F : Option (List α) → Option A) :
    iff (Nat.beq 1 1 && eqBl Bool.true Bool.true && (eqBl (noO o) (noO (iff (noO o) none (some (rowsO o)))) && (noO (iff (noO o) none (some (rowsO o))) || Nat.beq (List.length (rowsO o)) (List.length (rowsO (iff (noO o) none (some (rowsO o)))))))) (F (iff (noO o) none (some (rowsO o)))) none = F o := by
  cases o with
  | none => rfl
  | some v =>
    refine (iff_t ?_).trans rfl
    show Nat.beq v.length v.length = true
    exact natBeq_self _
noncomputable def upz (o : Option (List Int)) (ps : List UInt8) : Option (List Int) := ps.foldl (fun s c => up s (Int.ofNat c.toNat)) o
theorem rows_upz : ∀ (ps : List UInt8) (o : Option (List Int)), rowsO (upz o ps) = rowsO o ++ nums ps
  | [], o => (List.append_nil _).symm
  | c :: ps, o => by
    show rowsO (upz (up o (Int.ofNat c.toNat)) ps) = _
    rw [rows_upz ps, rows_up1]
    simp [nums]
abbrev X29 : Type := (List UInt8 × Int × Unit × Int × Unit) × (Option (List Int) × Unit) × Unit
theorem j9_29 (n : Nat) (l : List UInt8) (k a b : Nat) (o : Option (List Int)) (ha : a ≤ 15) (hb : b ≤ 15) (ho : (rowsO o).length ≤ 1000) :
    r29_j9 n l (Int.ofNat 8) (Int.ofNat k) (Int.ofNat a) (Int.ofNat b) false o = some (.inl ((l, Int.ofNat 8, PUnit.unit, Int.ofNat k, PUnit.unit), (up o (Int.ofNat (16 * a + b)), PUnit.unit), PUnit.unit)) := by
  have e1 : Int.mul (Int.ofNat 16) (Int.ofNat a) = Int.ofNat (16 * a) := rfl
  have e2 : Int.add (Int.ofNat (16 * a)) (Int.ofNat b) = Int.ofNat (16 * a + b) := rfl
  have hx : wrapQ Go.IntKind.u8 (wrapQ Go.IntKind.i64 (Int.add (wrapQ Go.IntKind.i64 (Int.mul (Int.ofNat 16) (Int.ofNat a))) (Int.ofNat b))) = Int.ofNat (16 * a + b) := by
    rw [e1, wrap_i64 (by omega), e2, wrap_i64 (by omega), wrap_u8 (by omega)]
  unfold r29_j9
  rw [hx]
  exact (iff_f rfl).trans (grow_o (t := t5) 1 2 o (Int.ofNat (16 * a + b)) (fun o' => some (Sum.inl ((l, Int.ofNat 8, PUnit.unit, Int.ofNat k, PUnit.unit), (o', PUnit.unit), PUnit.unit))) (Nat.le_trans (Nat.mul_le_mul_right 2 (Nat.succ_le_succ ho)) (by decide)))
theorem l5_29 (n : Nat) (l : List UInt8) (k : Nat) (a b : UInt8) (o : Option (List Int)) (hk : k < 8) (ha : l[2 * k]? = some a) (hb : l[2 * k + 1]? = some b) (ho : (rowsO o).length ≤ 1000) :
    r29_l5 n l (Int.ofNat 8) (Int.ofNat k) o = some (if 15 < hv a ∨ 15 < hv b then .inr (.inr ([], false, PUnit.unit)) else .inl ((l, Int.ofNat 8, PUnit.unit, Int.ofNat (k + 1), PUnit.unit), (up o (Int.ofNat (16 * hv a + hv b)), PUnit.unit), PUnit.unit)) := by
  have e1 : Int.mul (Int.ofNat 2) (Int.ofNat k) = Int.ofNat (2 * k) := rfl
  have e2 : Int.add (Int.ofNat (2 * k)) (Int.ofNat 1) = Int.ofNat (2 * k + 1) := rfl
  have la := (List.getElem?_eq_some_iff.1 ha).1
  have lb := (List.getElem?_eq_some_iff.1 hb).1
  unfold r29_l5
  rw [iff_nf (le_false hk), e1, wrap_i64 (by omega), e2, wrap_i64 (by omega), lenQ_eq, inRange_nat la, andThen_st, nthQ_some ha, andThen_st, r69_eq]
  show andThen (andThen (inRange (Int.ofNat (2 * k + 1)) l.length) _) _ = _
  rw [inRange_nat lb, andThen_st, nthQ_some hb, andThen_st, r69_eq]
  show andThen (andThen (iff (!leQ (Int.ofNat (hv a)) (Int.ofNat 15)) _ _) _) _ = _
  rw [leQ_nat]
  have hj6 : ∀ o' : Option (List Int), r29_j6 n l (Int.ofNat 8) (Int.ofNat k) o' = some (.inl ((l, Int.ofNat 8, PUnit.unit, Int.ofNat (k + 1), PUnit.unit), (o', PUnit.unit), PUnit.unit)) := fun o' => by
    unfold r29_j6
    rw [wrap_succ (by omega)]
    exact keep_o o' (fun o'' => some (Sum.inl ((l, Int.ofNat 8, PUnit.unit, Int.ofNat (k + 1), PUnit.unit), (o'', PUnit.unit), PUnit.unit)))
  have hq : (Nat.beq 1 1 && eqBl Bool.true Bool.true && (eqBl (noO o) (noO (iff (noO o) none (some (rowsO o)))) && (noO (iff (noO o) none (some (rowsO o))) || Nat.beq (List.length (rowsO o)) (List.length (rowsO (iff (noO o) none (some (rowsO o)))))))) = true := by
    cases o with
    | none => rfl
    | some v => exact natBeq_self v.length
  have ha := again_o o
  by_cases h1 : hv a ≤ 15
  · rw [decide_eq_true h1]
    rw [iff_nt (show true = true from rfl), iff_t hq, ha, andThen_st]
    show andThen (r29_j9 n l (Int.ofNat 8) (Int.ofNat k) (Int.ofNat (hv a)) (Int.ofNat (hv b)) (!leQ (Int.ofNat (hv b)) (Int.ofNat 15)) o) _ = _
    rw [leQ_nat]
    by_cases h2 : hv b ≤ 15
    · rw [decide_eq_true h2, if_neg (by omega)]
      show andThen (r29_j9 n l (Int.ofNat 8) (Int.ofNat k) (Int.ofNat (hv a)) (Int.ofNat (hv b)) false o) _ = _
      rw [j9_29 n l k _ _ o h1 h2 ho, andThen_st, sumK_inl]
      exact hj6 _
    · rw [decide_eq_false h2, if_pos (by omega)]; rfl
  · rw [decide_eq_false h1, if_pos (by omega), iff_nf (show false = false from rfl), iff_t hq, ha, andThen_st]
    rfl
theorem loop29 (n : Nat) (l : List UInt8) (hl : l.length = 16) : ∀ (j k m : Nat) (o : Option (List Int)), k + j = 8 → j < m → (rowsO o).length ≤ k →
    iterF (fun (x : X29) => r29_l5 n (Prod.fst (Prod.fst x)) (Prod.fst (Prod.snd (Prod.fst x))) (Prod.fst (Prod.snd (Prod.snd (Prod.snd (Prod.fst x))))) (Prod.fst (Prod.fst (Prod.snd x)))) m ((l, Int.ofNat 8, PUnit.unit, Int.ofNat k, PUnit.unit), (o, PUnit.unit), PUnit.unit) =
      some (match pairs (l.drop (2 * k)) with | none => .inr ([], false, PUnit.unit) | some ps => .inl ((PUnit.unit, PUnit.unit), (upz o ps, PUnit.unit), PUnit.unit)) := by
  intro j
  induction j with
  | zero =>
    intro k m o hk hm ho
    have hk : k = 8 := by omega
    subst hk
    cases m with
    | zero => omega
    | succ m =>
      rw [List.drop_eq_nil_of_le (by omega)]
      refine iterF_inr ?_
      show r29_l5 n l (Int.ofNat 8) (Int.ofNat 8) o = _
      unfold r29_l5
      rw [iff_nt (le_true (Nat.le_refl _))]
      exact andThen_of (keep_o o (fun o' => some (Sum.inl ((PUnit.unit, PUnit.unit), (o', PUnit.unit), PUnit.unit))))
  | succ j ih =>
    intro k m o hk hm ho
    cases m with
    | zero => omega
    | succ m =>
      have ha : 2 * k < l.length := by omega
      have hb : 2 * k + 1 < l.length := by omega
      have hd : l.drop (2 * k) = l[2 * k] :: l[2 * k + 1] :: l.drop (2 * (k + 1)) := by
        rw [List.drop_eq_getElem_cons ha, List.drop_eq_getElem_cons hb, show 2 * k + 1 + 1 = 2 * (k + 1) by omega]
      have hs := l5_29 n l k l[2 * k] l[2 * k + 1] o (by omega) (List.getElem?_eq_getElem ha) (List.getElem?_eq_getElem hb) (by omega)
      rw [hd, pairs]
      by_cases hc : 15 < hv l[2 * k] ∨ 15 < hv l[2 * k + 1]
      · rw [if_pos hc] at hs
        rw [if_pos hc, iterF_inr hs]
      · rw [if_neg hc] at hs
        rw [if_neg hc, iterF_inl hs, ih (k + 1) m _ (by omega) (by omega) (by rw [rows_up1, List.length_append, List.length_singleton]; omega)]
        cases pairs (l.drop (2 * (k + 1))) with
        | none => rfl
        | some ps =>
          have hh : (UInt8.ofNat (16 * hv l[2 * k] + hv l[2 * k + 1])).toNat = 16 * hv l[2 * k] + hv l[2 * k + 1] := by simp; omega
          show _ = some (Sum.inl ((PUnit.unit, PUnit.unit), (upz (up o (Int.ofNat (UInt8.ofNat (16 * hv l[2 * k] + hv l[2 * k + 1])).toNat)) ps, PUnit.unit), PUnit.unit))
          rw [hh]
def b29 (l : List UInt8) : List UInt8 := if l.length = 16 then (pairs l).getD [] else []
theorem r29_eq (l : List UInt8) : ∃ f, r29 1000 (l, Int.ofNat 8, PUnit.unit) = some (nums (b29 l), f, PUnit.unit) := by
  show ∃ f, iff (!eqQ (Int.ofNat (lenQ l)) (Int.ofNat 16)) _ _ = _
  rw [lenQ_eq, eqQ_nat]
  unfold b29
  by_cases hl : l.length = 16
  · rw [decide_eq_true hl, if_pos hl]
    show ∃ f, andThen (iterF _ 1000 _) _ = _
    rw [loop29 1000 l hl 8 0 1000 none rfl (by decide) (Nat.zero_le _), andThen_st]
    show ∃ f, sumK _ (match pairs l with | none => .inr ([], false, PUnit.unit) | some ps => .inl ((PUnit.unit, PUnit.unit), (upz none ps, PUnit.unit), PUnit.unit)) = _
    cases pairs l with
    | none => exact ⟨_, rfl⟩
    | some ps =>
      refine ⟨true, ?_⟩
      rw [sumK_inl]
      show r29_j11 1000 (upz none ps) = _
      have hr := rows_upz ps none
      unfold r29_j11
      rw [rows_o, hr]
      refine (iff_t ?_).trans rfl
      rw [natBeq_self]
      cases noO (upz none ps) <;> rfl
  · rw [decide_eq_false hl, if_neg hl]
    exact ⟨_, rfl⟩
theorem hv_dig (i : Nat) (h : i < 16) : hv (Bd.dig i) = i := by
  have : ∀ i : Fin 16, hv (Bd.dig i.1) = i.1 := by decide
  exact this ⟨i, h⟩
theorem pairs_hex : ∀ bs : List UInt8, pairs (Bd.hex bs) = some bs
  | [] => rfl
  | c :: bs => by
    have hc := c.toNat_lt
    show pairs (Bd.dig (c.toNat / 16) :: Bd.dig (c.toNat % 16) :: Bd.hex bs) = _
    rw [pairs, hv_dig _ (by omega), hv_dig _ (by omega), if_neg (by omega), pairs_hex bs]
    have : 16 * (c.toNat / 16) + c.toNat % 16 = c.toNat := by omega
    rw [this]
    simp
theorem b29_hex (b : Nat) : b29 (Bd.hex (be8 b)) = be8 b := by
  unfold b29
  rw [if_pos (by rw [Bd.hex_length]; rfl), pairs_hex]; rfl
end L
end Go.Proofs.YtdmpneafeadbbaaGreatDoor
set_option maxRecDepth 100000
set_option linter.unusedVariables false
namespace Go.Proofs.YtdmpneafeadbbaaGreatDoor
open Go Go.Abs Go.RowKit
namespace L
open Vl Rv
def un30 : List UInt8 → List UInt8
  | [] => []
  | [c] => [c]
  | c :: d :: r => if c = 92 then (if d = 115 then 32 else d) :: un30 r else c :: un30 (d :: r)
abbrev S30 : Type := (List UInt8 × List UInt8 × Int × Unit) × Unit × Unit
theorem j4_30 (n : Nat) (l out : List UInt8) (k : Nat) (hk : k < 1000) : r30_j4 n l out (Int.ofNat k) = some (.inl ((l, out, Int.ofNat (k + 1), PUnit.unit), PUnit.unit, PUnit.unit)) := by
  unfold r30_j4
  rw [wrap_succ (by omega)]
theorem j9_30 (n : Nat) (l out : List UInt8) (k : Nat) (c : UInt8) (hk : l[k]? = some c) (hl : l.length ≤ 1000) (ho : out.length ≤ 1000) : r30_j9 n l out (Int.ofNat k) = some (.inl ((l, out ++ [c], Int.ofNat k, PUnit.unit), PUnit.unit, PUnit.unit)) := by
  have hlt := (List.getElem?_eq_some_iff.1 hk).1
  unfold r30_j9
  rw [wrap_succ (by omega), lenQ_eq, upTo_nat (show k + 1 ≤ l.length by omega), andThen_st, upTo_nat (Nat.le_succ k), andThen_st, cut_one hk]
  refine (iff_t (ble_true ?_)).trans rfl
  rw [lenQ_eq]; show out.length + 1 ≤ _; omega
theorem l3_30 (n : Nat) (l out : List UInt8) (k : Nat) (c : UInt8) (hk : l[k]? = some c) (hl : l.length ≤ 500) (ho : out.length ≤ 1000) : r30_l3 n l out (Int.ofNat k) =
    some (.inl (if c = 92 ∧ k + 1 < l.length then ((l, out ++ [if l.getD (k + 1) 0 = 115 then 32 else l.getD (k + 1) 0], Int.ofNat (k + 2), PUnit.unit), PUnit.unit, PUnit.unit) else ((l, out ++ [c], Int.ofNat (k + 1), PUnit.unit), PUnit.unit, PUnit.unit))) := by
  have hlt := (List.getElem?_eq_some_iff.1 hk).1
  have hB : ∀ (F : S30 → Option (S30 ⊕ S30 ⊕ (List UInt8 × Unit) × Unit × Unit ⊕ List UInt8 × Unit)), True := fun _ => trivial
  unfold r30_l3
  rw [lenQ_eq, iff_nf (le_false hlt), inRange_nat hlt, andThen_st, nthQ_some hk, andThen_st, eqQ_nat, wrap_succ (by omega), leQ_nat]
  have hplain : andThen (andThen (andThen (some (Sum.inl ((l, out, Int.ofNat k, false, PUnit.unit), PUnit.unit, PUnit.unit) : (List UInt8 × List UInt8 × Int × Bool × Unit) × Unit × Unit ⊕ S30 ⊕ S30 ⊕ S30 ⊕ (List UInt8 × Unit) × Unit × Unit ⊕ List UInt8 × Unit))
        (sumK fun x => r30_j6 n (Prod.fst (Prod.fst x)) (Prod.fst (Prod.snd (Prod.fst x))) (Prod.fst (Prod.snd (Prod.snd (Prod.fst x)))) (Prod.fst (Prod.snd (Prod.snd (Prod.snd (Prod.fst x)))))))
        (sumK fun x => r30_j9 n (Prod.fst (Prod.fst x)) (Prod.fst (Prod.snd (Prod.fst x))) (Prod.fst (Prod.snd (Prod.snd (Prod.fst x))))))
        (sumK fun x => r30_j4 n (Prod.fst (Prod.fst x)) (Prod.fst (Prod.snd (Prod.fst x))) (Prod.fst (Prod.snd (Prod.snd (Prod.fst x))))) = some (.inl ((l, out ++ [c], Int.ofNat (k + 1), PUnit.unit), PUnit.unit, PUnit.unit)) := by
    show andThen (r30_j9 n l out (Int.ofNat k)) _ = _
    rw [j9_30 n l out k c hk (by omega) ho]
    show r30_j4 n l (out ++ [c]) (Int.ofNat k) = _
    exact j4_30 n l _ k (by omega)
  by_cases h92 : c = 92
  · subst h92
    by_cases h1 : k + 1 < l.length
    · have hd : l[k + 1]? = some (l.getD (k + 1) 0) := by simp [List.getD, List.getElem?_eq_getElem h1]
      generalize l.getD (k + 1) 0 = d at hd
      rw [if_pos ⟨rfl, h1⟩, decide_eq_false (show ¬ l.length ≤ k + 1 by omega)]
      show andThen (andThen (r30_j6 n l out (Int.ofNat k) true) _) _ = _
      have h6 : r30_j6 n l out (Int.ofNat k) true = some (if d = 115 then .inr (.inl ((l, out ++ [32], Int.ofNat (k + 1), PUnit.unit), PUnit.unit, PUnit.unit)) else .inl ((l, out, Int.ofNat (k + 1), PUnit.unit), PUnit.unit, PUnit.unit)) := by
        unfold r30_j6
        rw [iff_t rfl, wrap_succ (by omega), lenQ_eq, inRange_nat h1, andThen_st, nthQ_some hd, andThen_st, eqQ_nat]
        by_cases h115 : d = 115
        · subst h115
          rw [if_pos rfl]
          refine (iff_t (by decide)).trans ((iff_t (ble_true ?_)).trans rfl)
          rw [lenQ_eq]; show out.length + 1 ≤ _; omega
        · rw [if_neg h115]
          exact iff_f (decide_eq_false (fun h => h115 (UInt8.toNat_inj.1 h)))
      rw [h6, andThen_st]
      by_cases h115 : d = 115
      · rw [if_pos h115, if_pos h115]
        show r30_j4 n l (out ++ [32]) (Int.ofNat (k + 1)) = _
        exact j4_30 n l _ (k + 1) (by omega)
      · rw [if_neg h115, if_neg h115]
        show andThen (r30_j9 n l out (Int.ofNat (k + 1))) _ = _
        rw [j9_30 n l out (k + 1) d hd (by omega) ho]
        show r30_j4 n l (out ++ [d]) (Int.ofNat (k + 1)) = _
        exact j4_30 n l _ (k + 1) (by omega)
    · rw [if_neg (fun h => h1 h.2), decide_eq_true (show l.length ≤ k + 1 by omega)]
      exact hplain
  · rw [if_neg (fun h => h92 h.1), decide_eq_false (show ¬ c.toNat = 92 from fun h => h92 (UInt8.toNat_inj.1 h))]
    exact hplain
theorem loop30 (n : Nat) (l : List UInt8) (hl : l.length ≤ 500) : ∀ (j k m : Nat) (out : List UInt8), l.length ≤ k + j → k ≤ l.length → j < m → out.length ≤ k →
    iterF (fun (x : S30) => r30_l3 n (Prod.fst (Prod.fst x)) (Prod.fst (Prod.snd (Prod.fst x))) (Prod.fst (Prod.snd (Prod.snd (Prod.fst x))))) m ((l, out, Int.ofNat k, PUnit.unit), PUnit.unit, PUnit.unit) = some (.inl ((out ++ un30 (l.drop k), PUnit.unit), PUnit.unit, PUnit.unit)) := by
  intro j
  induction j with
  | zero =>
    intro k m out hk hkl hm ho
    have hk : k = l.length := by omega
    subst hk
    cases m with
    | zero => omega
    | succ m =>
      rw [List.drop_eq_nil_of_le (Nat.le_refl _)]
      refine iterF_inr ?_
      show r30_l3 n l out (Int.ofNat l.length) = _
      unfold r30_l3
      rw [lenQ_eq, iff_nt (le_true (Nat.le_refl _)), un30, List.append_nil]
  | succ j ih =>
    intro k m out hk hkl hm ho
    cases m with
    | zero => omega
    | succ m =>
      by_cases hlt : k < l.length
      · have hs := l3_30 n l out k l[k] (List.getElem?_eq_getElem hlt) hl (by omega)
        rw [List.drop_eq_getElem_cons hlt]
        by_cases hc : l[k] = 92 ∧ k + 1 < l.length
        · rw [if_pos hc] at hs
          have hg : l.getD (k + 1) 0 = l[k + 1]'hc.2 := by simp [List.getD, List.getElem?_eq_getElem hc.2]
          rw [iterF_inl hs, ih (k + 2) m _ (by omega) (by omega) (by omega) (by rw [List.length_append, List.length_singleton]; omega), List.drop_eq_getElem_cons hc.2, hg, un30, if_pos hc.1]
          simp
        · rw [if_neg hc] at hs
          rw [iterF_inl hs, ih (k + 1) m _ (by omega) (by omega) (by omega) (by rw [List.length_append, List.length_singleton]; omega)]
          have : un30 (l[k] :: l.drop (k + 1)) = l[k] :: un30 (l.drop (k + 1)) := by
            cases hd : l.drop (k + 1) with
            | nil => rfl
            | cons d r =>
              have h1 : k + 1 < l.length := by
                have := congrArg List.length hd
                rw [List.length_drop, List.length_cons] at this
                omega
              rw [un30, if_neg (fun h => hc ⟨h, h1⟩)]
          rw [this]
          simp
      · have hk : k = l.length := by omega
        subst hk
        rw [List.drop_eq_nil_of_le (Nat.le_refl _)]
        refine iterF_inr ?_
        show r30_l3 n l out (Int.ofNat l.length) = _
        unfold r30_l3
        rw [lenQ_eq, iff_nt (le_true (Nat.le_refl _)), un30, List.append_nil]
theorem r30_eq (l : List UInt8) (hl : l.length ≤ 500) : r30 1000 (l, PUnit.unit) = some (un30 l, PUnit.unit) := by
  show andThen (iterF _ 1000 _) _ = _
  rw [loop30 1000 l hl l.length 0 1000 [] (by omega) (by omega) (by omega) (by decide)]
  rfl
theorem un30_esc : ∀ t : List UInt8, un30 (Es.esc t) = t
  | [] => rfl
  | c :: t => by
    show un30 (Es.esc1 c ++ Es.esc t) = _
    have ih := un30_esc t
    unfold Es.esc1
    by_cases h : c = 32
    · rw [if_pos h, h]
      show un30 (92 :: 115 :: Es.esc t) = _
      rw [un30, if_pos rfl, if_pos rfl, ih]
    · rw [if_neg h]
      by_cases h2 : c = 92
      · rw [if_pos h2, h2]
        show un30 (92 :: 92 :: Es.esc t) = _
        rw [un30, if_pos rfl, if_neg (by decide), ih]
      · rw [if_neg h2]
        show un30 (c :: Es.esc t) = _
        cases hd : Es.esc t with
        | nil => rw [hd] at ih; rw [← ih]; rfl
        | cons d r => rw [un30, if_neg h2, ← hd, ih]
theorem une_esc : ∀ t : List UInt8, Wg.une (Es.esc t) = t
  | [] => rfl
  | c :: t => by
    show Wg.une (Es.esc1 c ++ Es.esc t) = _
    have ih := une_esc t
    unfold Es.esc1
    by_cases h : c = 32
    · rw [if_pos h, h]
      show Wg.une (92 :: 115 :: Es.esc t) = _
      rw [Wg.une, if_neg (by decide), if_pos ⟨rfl, rfl⟩, ih]
    · rw [if_neg h]
      by_cases h2 : c = 92
      · rw [if_pos h2, h2]
        show Wg.une (92 :: 92 :: Es.esc t) = _
        rw [Wg.une, if_pos ⟨rfl, rfl⟩, ih]
      · rw [if_neg h2]
        show Wg.une (c :: Es.esc t) = _
        rw [Wg.une_skip c _ (.inl h2), ih]
end L
end Go.Proofs.YtdmpneafeadbbaaGreatDoor
