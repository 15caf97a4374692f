/- Texts of this claim, joined: each says ahead what it shows. Conditions: those of each contract. -/
import Derived.Test.YtdmpneafeadbbaaGreatDoorGh
import Derived.Lib.ParseIntBTie
import Derived.Lib.AtoiAllCases
/- What both readers read. Conditions: the text's length. -/
set_option maxRecDepth 100000
set_option linter.unusedVariables false
namespace Go.Proofs.YtdmpneafeadbbaaGreatDoor
open Go Go.Abs Go.RowKit
namespace L
open Vl Rv
abbrev V4 : Type := Int × Int × Nat × List UInt8
/-- the value's ranges -/
def In (v : V4) : Prop := -9223372036854775808 ≤ v.2.1 ∧ v.2.1 ≤ 9223372036854775807 ∧ v.2.2.1 < 18446744073709551616
/-- the text is a value's -/
def Reads (s : List UInt8) (v : V4) : Prop := In v ∧ okv v.1 v.2.1 v.2.2.1 v.2.2.2 = true ∧ txt v.1 v.2.1 v.2.2.1 v.2.2.2 = s
theorem z0 : (-9223372036854775808 : Int) ≤ 0 := by decide
theorem z1 : (0 : Int) ≤ 9223372036854775807 := by decide
theorem zb : (0 : Nat) < 18446744073709551616 := by decide
theorem wrap_in (n : Int) : -9223372036854775808 ≤ wrapQ .i64 n ∧ wrapQ .i64 n ≤ 9223372036854775807 := by
  rw [wrapQ_eq]
  simp only [IntKind.wrap, IntKind.bits, IntKind.signed]
  simp
  omega
/-! ### numerals -/
theorem pu_append : ∀ (l : List UInt8) (a v : Nat) (c : UInt8), Lib.parseUint10 a l = .ok v → 48 ≤ c.toNat → c.toNat ≤ 57 → v * 10 + (c.toNat - 48) < 18446744073709551616 → Lib.parseUint10 a (l ++ [c]) = .ok (v * 10 + (c.toNat - 48))
  | [], a, v, c, h, h1, h2, h3 => by
    have hv : a = v := by injection h
    subst hv
    show Lib.parseUint10 a [c] = _
    rw [Lib.parseUint10, if_pos ⟨h1, h2⟩, if_neg (by omega), if_neg (by omega)]; rfl
  | d :: l, a, v, c, h, h1, h2, h3 => by
    rw [Lib.parseUint10] at h
    show Lib.parseUint10 a (d :: (l ++ [c])) = _
    rw [Lib.parseUint10]
    split at h
    · rename_i hd
      rw [if_pos hd]
      split at h
      · cases h
      · rename_i h4
        rw [if_neg h4]
        split at h
        · cases h
        · rename_i h5
          rw [if_neg h5]
          exact pu_append l _ v c h h1 h2 h3
    · cases h
theorem pu_dec : ∀ (u : Nat), u < 18446744073709551616 → Lib.parseUint10 0 (Lib.decDigits u) = .ok u := by
  intro u
  induction u using Nat.strongRecOn with
  | _ u ih =>
    intro hu
    by_cases h : u < 10
    · rw [dec_small h, Lib.parseUint10, ofNat_digit u h, if_pos (by omega), if_neg (by omega), if_neg (by omega), Lib.parseUint10]
      congr 1
      omega
    · rw [dec_big h, pu_append _ _ (u / 10) _ (ih (u / 10) (by omega) (by omega)) (by rw [ofNat_digit _ (by omega)]; omega) (by rw [ofNat_digit _ (by omega)]; omega) (by rw [ofNat_digit _ (by omega)]; omega)]
      congr 1
      rw [ofNat_digit _ (by omega)]; omega
theorem dec_all : ∀ (u : Nat), ∀ c ∈ Lib.decDigits u, 48 ≤ c.toNat ∧ c.toNat ≤ 57 := by
  intro u
  induction u using Nat.strongRecOn with
  | _ u ih =>
    intro c hc
    by_cases h : u < 10
    · rw [dec_small h, List.mem_singleton] at hc
      rw [hc, ofNat_digit u h]; omega
    · rw [dec_big h, List.mem_append, List.mem_singleton] at hc
      rcases hc with hc | hc
      · exact ih (u / 10) (by omega) c hc
      · rw [hc, ofNat_digit _ (by omega)]; omega
theorem parse_itoa (m : Int) (h0 : -9223372036854775808 ≤ m) (h1 : m ≤ 9223372036854775807) : Lib.parseIntB 64 (Lib.itoa m) = .ok m := by
  rw [Lib.parseIntB_64]
  unfold Lib.itoa
  by_cases hm : m < 0
  · rw [if_pos hm, Lib.atoiAll_minus]
    unfold Lib.parseMag
    rw [if_neg (dec_ne _), pu_dec _ (by omega), Lib.signed, if_neg (by omega)]
    congr 1
    omega
  · rw [if_neg hm]
    have hp : Lib.atoiAll (Lib.decDigits m.toNat) = Lib.signless (Lib.parseMag (Lib.decDigits m.toNat)) := by
      have ha := dec_all m.toNat
      cases hd : Lib.decDigits m.toNat with
      | nil => exact absurd hd (dec_ne _)
      | cons c r =>
        rw [hd] at ha
        have := ha c (List.mem_cons_self ..)
        exact Lib.atoiAll_plain c r (by omega) (by omega)
    rw [hp]
    unfold Lib.parseMag
    rw [if_neg (dec_ne _), pu_dec _ (by omega), Lib.signless, if_neg (by omega)]
    congr 1
    omega
/-! ### bytes to the base 16 -/
theorem dv_dig (i : Nat) (h : i < 16) : Ph.dv (Bd.dig i) = i := by
  have : ∀ i : Fin 16, Ph.dv (Bd.dig i.1) = i.1 := by decide
  exact this ⟨i, h⟩
/-- a number out of bytes -/
def num : Nat → List UInt8 → Nat
  | a, [] => a
  | a, c :: l => num (a * 256 + c.toNat) l
theorem p16_hex : ∀ (bs : List UInt8) (a : Nat), (a + 1) * 256 ^ bs.length ≤ 18446744073709551616 → Ph.p16 a (Bd.hex bs) = some (num a bs)
  | [], a, _ => rfl
  | c :: bs, a, h => by
    have hc := c.toNat_lt
    have hp : 0 < 256 ^ bs.length := Nat.pow_pos (by decide)
    have h2 : (a + 1) * 256 * 256 ^ bs.length ≤ 18446744073709551616 := by
      rw [List.length_cons, Nat.pow_succ, Nat.mul_comm (256 ^ bs.length) 256, ← Nat.mul_assoc] at h
      exact h
    have h1 : (a + 1) * 256 ≤ 18446744073709551616 := Nat.le_trans (Nat.le_mul_of_pos_right _ hp) h2
    show Ph.p16 a (Bd.dig (c.toNat / 16) :: Bd.dig (c.toNat % 16) :: Bd.hex bs) = _
    rw [Ph.p16, dv_dig _ (by omega), if_pos ⟨by omega, by omega⟩, Ph.p16, dv_dig _ (by omega), if_pos ⟨by omega, by omega⟩]
    have e : (a * 16 + c.toNat / 16) * 16 + c.toNat % 16 = a * 256 + c.toNat := by omega
    rw [e]
    exact p16_hex bs (a * 256 + c.toNat) (Nat.le_trans (Nat.mul_le_mul_right _ (by omega)) h2)
theorem num_be8 (b : Nat) (hb : b < 18446744073709551616) : num 0 (be8 b) = b := by
  unfold be8
  simp only [num, UInt8.toNat_ofNat']
  omega
theorem p16_be8 (b : Nat) (hb : b < 18446744073709551616) : Ph.p16 0 (Bd.hex (be8 b)) = some b := by
  rw [p16_hex (be8 b) 0 (show (0 + 1) * 256 ^ 8 ≤ 18446744073709551616 by decide), num_be8 b hb]
theorem okv1 {m : Int} {b : Nat} {l : List UInt8} (h : okv 1 m b l = true) : b = 0 ∧ l = [] := by
  unfold okv at h
  rw [if_pos rfl] at h
  simpa using h
theorem okv2 {m : Int} {b : Nat} {l : List UInt8} (h : okv 2 m b l = true) : m = 0 ∧ l = [] := by
  unfold okv at h
  rw [if_neg (by decide), if_pos rfl] at h
  simp only [Bool.and_eq_true, decide_eq_true_eq] at h
  exact h.1
theorem okv3 {m : Int} {b : Nat} {l : List UInt8} (h : okv 3 m b l = true) : m = 0 ∧ b = 0 ∧ l.length ≤ 30 := by
  unfold okv at h
  rw [if_neg (by decide), if_neg (by decide), if_pos rfl] at h
  simp only [Bool.and_eq_true, decide_eq_true_eq] at h
  exact ⟨h.1.1.1, h.1.1.2, h.1.2⟩
theorem cand_txt (v : V4) (h : In v) (ho : okv v.1 v.2.1 v.2.2.1 v.2.2.2 = true) : cand (txt v.1 v.2.1 v.2.2.1 v.2.2.2) = some v := by
  obtain ⟨k, m, b, l⟩ := v
  obtain ⟨h0, h1, hb⟩ := h
  simp only at *
  rcases okv_kind ho with rfl | rfl | ⟨rfl, _⟩
  · obtain ⟨rfl, rfl⟩ := okv1 ho
    rw [txt1, cand, if_pos rfl, parse_itoa m h0 h1]
  · obtain ⟨rfl, rfl⟩ := okv2 ho
    have hne : Bd.hex (be8 b) ≠ [] := fun h => by
      have := congrArg List.length h
      rw [Bd.hex_length] at this
      cases this
    rw [txt2, cand, if_neg (by decide), if_pos rfl, if_neg hne, p16_be8 b hb]
  · obtain ⟨rfl, rfl, _⟩ := okv3 ho
    rw [txt3, cand, if_neg (by decide), if_neg (by decide), if_pos rfl, une_esc]
theorem cand_in {s : List UInt8} {v : V4} (h : cand s = some v) : In v := by
  cases s with
  | nil => cases h
  | cons c l =>
    rw [cand] at h
    split at h
    · split at h
      · rename_i m hm
        cases h
        obtain ⟨h0, h1⟩ := Lib.parseIntB_bounds hm
        exact ⟨h0, Int.le_of_lt_add_one h1, zb⟩
      · cases h
    · split at h
      · split at h
        · rename_i b hb
          cases h
          by_cases hn : l = []
          · rw [if_pos hn] at hb; cases hb
          · rw [if_neg hn] at hb
            exact ⟨z0, z1, p16_lt _ _ _ (by decide) hb⟩
        · cases h
      · split at h
        · cases h; exact ⟨z0, z1, zb⟩
        · cases h; exact ⟨z0, z1, zb⟩
theorem rd_iff (s : List UInt8) (v : V4) : rd s = some v ↔ Reads s v := by
  unfold rd Reads
  constructor
  · intro h
    cases hc : cand s with
    | none => rw [hc] at h; cases h
    | some u =>
      rw [hc] at h
      obtain ⟨k, m, b, l⟩ := u
      simp only at h
      split at h
      · rename_i h2
        cases h
        exact ⟨cand_in hc, h2⟩
      · cases h
  · rintro ⟨h1, h2, h3⟩
    have hc := cand_txt v h1 h2
    rw [h3] at hc
    rw [hc]
    obtain ⟨k, m, b, l⟩ := v
    simp only at *
    rw [if_pos ⟨h2, h3⟩]
/-! ### the reference's -/
def neg9 (l : List UInt8) : Bool := decide (l.head? = some 45)
noncomputable def m9 (l : List UInt8) : Int := if neg9 l = true then wrapQ .i64 (wrapQ .u64 (Int.neg (Int.ofNat (d28 (l.drop 1))))) else wrapQ .i64 (Int.ofNat (d28 l))
def n9 (a : Nat) (c : UInt8) : Nat := (256 * a % 18446744073709551616 + c.toNat) % 18446744073709551616
/-- what the reference reads, before it is looked at again -/
noncomputable def cand9 (s : List UInt8) : Option V4 := if s.length < 1 ∨ 100 < s.length then none else
  match s with
  | [] => none
  | c :: l => if c = 110 then some (1, m9 l, 0, []) else if c = 102 then some (2, 0, (b29 l).foldl n9 0, []) else if c = 116 then some (3, 0, 0, un30 l) else none
noncomputable def rd9 (s : List UInt8) : Option V4 := match cand9 s with
  | some (k, m, b, l) => if okv k m b l = true ∧ txt k m b l = s then some (k, m, b, l) else none
  | none => none
theorem n9_lt (l : List UInt8) : ∀ a, a < 18446744073709551616 → l.foldl n9 a < 18446744073709551616 := by
  induction l with
  | nil => intro a h; exact h
  | cons c l ih => intro a h; exact ih _ (Nat.mod_lt _ (by decide))
theorem fold_be8 (b : Nat) (hb : b < 18446744073709551616) : (be8 b).foldl n9 0 = b := by
  unfold be8 n9
  simp only [List.foldl_cons, List.foldl_nil, UInt8.toNat_ofNat']
  omega
theorem itoa_len (m : Int) (h0 : -9223372036854775808 ≤ m) (h1 : m ≤ 9223372036854775807) : (Lib.itoa m).length ≤ 21 := Lib.itoa_length_le m h0 h1
theorem txt_len (v : V4) (h : In v) (ho : okv v.1 v.2.1 v.2.2.1 v.2.2.2 = true) : ¬ ((txt v.1 v.2.1 v.2.2.1 v.2.2.2).length < 1 ∨ 100 < (txt v.1 v.2.1 v.2.2.1 v.2.2.2).length) := by
  obtain ⟨k, m, b, l⟩ := v
  obtain ⟨h0, h1, hb⟩ := h
  simp only at *
  rcases okv_kind ho with rfl | rfl | ⟨rfl, hl⟩
  · have := itoa_len m h0 h1
    rw [txt1, List.length_cons]; omega
  · rw [txt2, List.length_cons, Bd.hex_length]
    have : (be8 b).length = 8 := rfl
    omega
  · rw [txt3, List.length_cons, Es.esc_length]
    have := Es.cnt_le l
    omega
theorem m9_itoa (m : Int) (h0 : -9223372036854775808 ≤ m) (h1 : m ≤ 9223372036854775807) : m9 (Lib.itoa m) = m := by
  unfold m9 neg9 Lib.itoa
  by_cases hm : m < 0
  · rw [if_pos hm]
    show (if decide ((45 :: Lib.decDigits m.natAbs).head? = some 45) = true then wrapQ .i64 (wrapQ .u64 (Int.neg (Int.ofNat (d28 (Lib.decDigits m.natAbs))))) else _) = _
    rw [if_pos (by simp), d28_dec _ (by omega), wrapQ_eq, wrapQ_eq, IntKind.wrap_u64]
    simp only [IntKind.wrap, IntKind.bits, IntKind.signed]
    have e : Int.neg (Int.ofNat m.natAbs) = m := by show -((m.natAbs : Nat) : Int) = m; omega
    rw [e]
    simp
    omega
  · rw [if_neg hm]
    have hd : ¬ ((Lib.decDigits m.toNat).head? = some 45) := fun h => by
      have ha := dec_all m.toNat
      cases hd : Lib.decDigits m.toNat with
      | nil => exact absurd hd (dec_ne _)
      | cons c r =>
        rw [hd] at ha h
        have := ha c (List.mem_cons_self ..)
        have := Option.some.inj h
        subst this
        simp at *
    rw [if_neg (by simpa using hd), d28_dec _ (by omega), wrap_i64 (by omega)]
    show ((m.toNat : Nat) : Int) = m
    omega
theorem cand9_txt (v : V4) (h : In v) (ho : okv v.1 v.2.1 v.2.2.1 v.2.2.2 = true) : cand9 (txt v.1 v.2.1 v.2.2.1 v.2.2.2) = some v := by
  unfold cand9
  rw [if_neg (txt_len v h ho)]
  obtain ⟨k, m, b, l⟩ := v
  obtain ⟨h0, h1, hb⟩ := h
  simp only at *
  rcases okv_kind ho with rfl | rfl | ⟨rfl, _⟩
  · obtain ⟨rfl, rfl⟩ := okv1 ho
    rw [txt1]
    show (if (110 : UInt8) = 110 then some (1, m9 (Lib.itoa m), 0, []) else _) = _
    rw [if_pos rfl, m9_itoa m h0 h1]
  · obtain ⟨rfl, rfl⟩ := okv2 ho
    rw [txt2]
    show (if (102 : UInt8) = 110 then _ else if (102 : UInt8) = 102 then some (2, 0, (b29 (Bd.hex (be8 b))).foldl n9 0, []) else _) = _
    rw [if_neg (by decide), if_pos rfl, b29_hex, fold_be8 b hb]
  · obtain ⟨rfl, rfl, _⟩ := okv3 ho
    rw [txt3]
    show (if (116 : UInt8) = 110 then _ else if (116 : UInt8) = 102 then _ else if (116 : UInt8) = 116 then some (3, 0, 0, un30 (Es.esc l)) else _) = _
    rw [if_neg (by decide), if_neg (by decide), if_pos rfl, un30_esc]
theorem cand9_in {s : List UInt8} {v : V4} (h : cand9 s = some v) : In v := by
  unfold cand9 at h
  split at h
  · cases h
  · cases s with
    | nil => cases h
    | cons c l =>
      simp only at h
      split at h
      · cases h
        unfold In m9
        refine ⟨?_, ?_, zb⟩
        · simp only; split <;> exact (wrap_in _).1
        · simp only; split <;> exact (wrap_in _).2
      · split at h
        · cases h; exact ⟨z0, z1, n9_lt _ _ (by decide)⟩
        · split at h
          · cases h; exact ⟨z0, z1, zb⟩
          · cases h
theorem rd9_iff (s : List UInt8) (v : V4) : rd9 s = some v ↔ Reads s v := by
  unfold rd9 Reads
  constructor
  · intro h
    cases hc : cand9 s with
    | none => rw [hc] at h; cases h
    | some u =>
      rw [hc] at h
      obtain ⟨k, m, b, l⟩ := u
      simp only at h
      split at h
      · rename_i h2
        cases h
        exact ⟨cand9_in hc, h2⟩
      · cases h
  · rintro ⟨h1, h2, h3⟩
    have hc := cand9_txt v h1 h2
    rw [h3] at hc
    rw [hc]
    obtain ⟨k, m, b, l⟩ := v
    simp only at *
    rw [if_pos ⟨h2, h3⟩]
/-- **both read the same** -/
theorem rd_same (s : List UInt8) : rd9 s = rd s := by
  apply Option.ext
  intro v
  rw [rd9_iff, rd_iff]
end L
end Go.Proofs.YtdmpneafeadbbaaGreatDoor
/- ref45's ReadValue as it runs, told by what it reads. Conditions: the text's length. -/
set_option maxRecDepth 100000
set_option linter.unusedVariables false
namespace Go.Proofs.YtdmpneafeadbbaaGreatDoor
open Go Go.Abs Go.RowKit
namespace L
open Vl Rv
/-- what is handed back -/
noncomputable def out9 (o : Option V4) : El t24 × Int × Unit := match o with
  | some (k, m, b, l) => (mk k m b l, Int.ofNat 0, PUnit.unit)
  | none => (mk 0 0 0 [], Int.ofNat 12, PUnit.unit)
noncomputable def look (v : V4) (s : List UInt8) : Option V4 := if okv v.1 v.2.1 v.2.2.1 v.2.2.2 = true ∧ txt v.1 v.2.1 v.2.2.1 v.2.2.2 = s then some v else none
attribute [local irreducible] r24 r11 in
theorem j25_9 (s : List UInt8) (x : El t24) (v : V4) (h : In v) (hl : v.2.2.2.length ≤ 500) : r9_j25 1000 s x (mk v.1 v.2.1 v.2.2.1 v.2.2.2) = some (out9 (look v s)) := by
  obtain ⟨k, m, b, l⟩ := v
  obtain ⟨h0, h1, hb⟩ := h
  simp only at *
  unfold r9_j25 look
  have h11 : r11 1000 (mk k m b l, PUnit.unit) = _ := r11_eq 1000 k m b l hb (by omega) (by omega)
  rw [h11]
  cases ho : okv k m b l with
  | false =>
    have e : (if false = true ∧ txt k m b l = s then some (k, m, b, l) else none : Option V4) = none := if_neg (fun h => by cases h.1)
    rw [e]; rfl
  | true =>
    show andThen (andThen (r24 1000 (mk k m b l, PUnit.unit)) (fun (y : ElL [t9]) => some (Sum.inl ((PUnit.unit, PUnit.unit, !sameBytes y.1 s, PUnit.unit), PUnit.unit, x, mk k m b l, PUnit.unit)))) _ = _
    rw [r24_eq k m b l ho h0 h1]
    show r9_j26 1000 (!sameBytes (txt k m b l) s) x (mk k m b l) = _
    by_cases he : txt k m b l = s
    · rw [if_pos ⟨rfl, he⟩, show sameBytes (txt k m b l) s = true by rw [he]; unfold sameBytes; simp]; rfl
    · rw [if_neg (fun h => he h.2), show sameBytes (txt k m b l) s = false by unfold sameBytes; simpa using he]; rfl
theorem n9_eq (a : Nat) (c : UInt8) : wrapQ Go.IntKind.u64 (Int.add (wrapQ Go.IntKind.u64 (Int.mul (Int.ofNat 256) (Int.ofNat a))) (wrapQ Go.IntKind.u64 (Int.ofNat c.toNat))) = Int.ofNat (n9 a c) := by
  have hc := c.toNat_lt
  have m : ∀ k : Nat, wrapQ .u64 (Int.ofNat k) = Int.ofNat (k % 18446744073709551616) := fun k => by rw [wrapQ_eq, IntKind.wrap_u64]; rfl
  have e2 : Int.mul (Int.ofNat 256) (Int.ofNat a) = Int.ofNat (256 * a) := rfl
  rw [e2, m, wrap_u64 (by omega)]
  have e3 : Int.add (Int.ofNat (256 * a % 18446744073709551616)) (Int.ofNat c.toNat) = Int.ofNat (256 * a % 18446744073709551616 + c.toNat) := rfl
  rw [e3, m]; rfl
abbrev X9 : Type := (List UInt8 × Unit × Unit × List Int × Int × Unit) × Unit × El t24 × El t24 × Unit
theorem loop9 (n : Nat) (s : List UInt8) (x : El t24) (bs : List UInt8) (hn : bs.length < n) (hl : bs.length ≤ 1000) :
    iterF (fun (y : X9) => r9_l20 n (Prod.fst (Prod.fst y)) (Prod.fst (Prod.snd (Prod.snd (Prod.snd (Prod.fst y))))) (Prod.fst (Prod.snd (Prod.snd (Prod.snd (Prod.snd (Prod.fst y)))))) (Prod.fst (Prod.snd (Prod.snd y))) (Prod.fst (Prod.snd (Prod.snd (Prod.snd y)))))
      n ((s, PUnit.unit, PUnit.unit, nums bs, Int.ofNat 0, PUnit.unit), PUnit.unit, x, mk 2 0 0 [], PUnit.unit) = some (.inl ((s, PUnit.unit, PUnit.unit, PUnit.unit), PUnit.unit, x, mk 2 0 (bs.foldl n9 0) [], PUnit.unit)) := by
  have h := iterF_list (X := X9) (R := (List UInt8 × Unit × Unit × Unit) × Unit × El t24 × El t24 × Unit ⊕ El t24 × Int × Unit)
    (body := fun (y : X9) => r9_l20 n (Prod.fst (Prod.fst y)) (Prod.fst (Prod.snd (Prod.snd (Prod.snd (Prod.fst y))))) (Prod.fst (Prod.snd (Prod.snd (Prod.snd (Prod.snd (Prod.fst y)))))) (Prod.fst (Prod.snd (Prod.snd y))) (Prod.fst (Prod.snd (Prod.snd (Prod.snd y)))))
    bs (fun k (a : Nat) => ((s, PUnit.unit, PUnit.unit, nums bs, Int.ofNat k, PUnit.unit), PUnit.unit, x, mk 2 0 a [], PUnit.unit)) n9 (fun a => .inl ((s, PUnit.unit, PUnit.unit, PUnit.unit), PUnit.unit, x, mk 2 0 a [], PUnit.unit)) (fun _ _ => True)
    (fun k c a hk _ => by
      have hlt := (List.getElem?_eq_some_iff.1 hk).1
      have hlt' : k < (nums bs).length := by unfold nums; rw [List.length_map]; exact hlt
      have hk' : (nums bs)[k]? = some (Int.ofNat c.toNat) := by unfold nums; rw [List.getElem?_map, hk]; rfl
      refine ⟨?_, trivial⟩
      show r9_l20 n s (nums bs) (Int.ofNat k) x (mk 2 0 a []) = _
      unfold r9_l20
      rw [iff_nf (le_false hlt'), inRange_nat hlt', andThen_st, nthQ_some hk', andThen_st, wrap_succ (by omega)]
      show some (Sum.inl ((s, PUnit.unit, PUnit.unit, nums bs, Int.ofNat (k + 1), PUnit.unit), PUnit.unit, x, ((2 : Int), (0 : Int), wrapQ Go.IntKind.u64 (Int.add (wrapQ Go.IntKind.u64 (Int.mul (Int.ofNat 256) (Int.ofNat a))) (wrapQ Go.IntKind.u64 (Int.ofNat c.toNat))), ([] : List UInt8), PUnit.unit), PUnit.unit)) = _
      rw [n9_eq]; rfl)
    (fun a _ => by
      show r9_l20 n s (nums bs) (Int.ofNat bs.length) x (mk 2 0 a []) = _
      unfold r9_l20
      have : (nums bs).length = bs.length := by unfold nums; rw [List.length_map]
      rw [this, iff_nt (le_true (Nat.le_refl _))]) n 0 trivial hn
  exact h.1
theorem pairs_len : ∀ (l ps : List UInt8), pairs l = some ps → ps.length ≤ l.length
  | [], ps, h => by cases h; exact Nat.le_refl _
  | [_], ps, h => by cases h; exact Nat.zero_le _
  | a :: b :: r, ps, h => by
    rw [pairs] at h
    split at h
    · cases h
    · obtain ⟨q, hq, rfl⟩ := Option.map_eq_some_iff.1 h
      have := pairs_len r q hq
      simp only [List.length_cons]; omega
theorem b29_len (l : List UInt8) : (b29 l).length ≤ 16 := by
  unfold b29
  split
  · rename_i h
    cases hp : pairs l with
    | none => exact Nat.zero_le _
    | some ps => have := pairs_len l ps hp; show ps.length ≤ 16; omega
  · exact Nat.zero_le _
theorem un30_len : ∀ l : List UInt8, (un30 l).length ≤ l.length
  | [] => Nat.le_refl _
  | [_] => Nat.le_refl _
  | c :: d :: r => by
    unfold un30
    have h1 := un30_len r
    have h2 := un30_len (d :: r)
    simp only [List.length_cons] at *
    split
    · simp; omega
    · simp; omega
theorem cut_tail (c : UInt8) (l : List UInt8) : cutL 1 (c :: l).length (c :: l) = l := by
  show (l.take ((l.length + 1) - 1)) = l
  simp
theorem m9_in (l : List UInt8) : In (1, m9 l, 0, []) := by
  unfold In m9
  refine ⟨?_, ?_, zb⟩
  · simp only; split <;> exact (wrap_in _).1
  · simp only; split <;> exact (wrap_in _).2
theorem look_of (s : List UInt8) : rd9 s = match cand9 s with | some v => look v s | none => none := by
  unfold rd9 look
  cases cand9 s with
  | none => rfl
  | some v => obtain ⟨k, m, b, l⟩ := v; rfl
attribute [local irreducible] r28 in
theorem j12_9 (s d : List UInt8) (ng : Bool) (x : El t24) (hd : d.length ≤ 500) : r9_j12 1000 s d ng x (mk 1 0 0 []) = some (.inl ((s, PUnit.unit, PUnit.unit, PUnit.unit), PUnit.unit, x, mk 1 (if ng = true then wrapQ .i64 (wrapQ .u64 (Int.neg (Int.ofNat (d28 d)))) else wrapQ .i64 (Int.ofNat (d28 d))) 0 [], PUnit.unit)) := by
  obtain ⟨f, h⟩ := r28_eq d (Int.ofNat 9223372036854775808)
  unfold r9_j12
  rw [h]
  cases ng <;> rfl
theorem j10_9 (s l : List UInt8) (x : El t24) (hl : l.length ≤ 500) : r9_j10 1000 s l (neg9 l) x (mk 1 0 0 []) = some (.inl ((s, PUnit.unit, PUnit.unit, PUnit.unit), PUnit.unit, x, mk 1 (m9 l) 0 [], PUnit.unit)) := by
  unfold r9_j10 m9
  cases hn : neg9 l with
  | false =>
    show r9_j12 1000 s l false x (mk 1 0 0 []) = _
    rw [j12_9 s l false x hl]; rfl
  | true =>
    cases l with
    | nil => cases hn
    | cons c r =>
      have hu : upTo (Int.ofNat 1) (lenQ (c :: r)) = some 1 := by rw [lenQ_eq]; exact upTo_nat (by simp)
      rw [iff_t (show true = true from rfl), hu, andThen_st, andThen_st, sumK_inl]
      show r9_j12 1000 s (cutL 1 (lenQ (c :: r)) (c :: r)) true x (mk 1 0 0 []) = _
      rw [lenQ_eq, cut_tail, j12_9 s r true x (by simp at hl; omega)]; rfl
attribute [local irreducible] r28 r29 r30 r24 r11 in
theorem j2_9 (c : UInt8) (l : List UInt8) (hl : l.length ≤ 99) : r9_j2 1000 (c :: l) false (mk 0 0 0 []) = some (out9 (rd9 (c :: l))) := by
  have hlen : ¬ ((c :: l).length < 1 ∨ 100 < (c :: l).length) := by simp; omega
  have hu : upTo (Int.ofNat 1) (lenQ (c :: l)) = some 1 := by rw [lenQ_eq]; exact upTo_nat (by simp)
  have hct : cutL 1 (lenQ (c :: l)) (c :: l) = l := by rw [lenQ_eq]; exact cut_tail c l
  rw [look_of]
  unfold r9_j2 cand9
  rw [if_neg hlen, iff_f rfl, hu, andThen_st, hct]
  show andThen (iff (eqQ (Int.ofNat c.toNat) (Int.ofNat 110)) _ (iff (eqQ (Int.ofNat c.toNat) (Int.ofNat 102)) _ (iff (eqQ (Int.ofNat c.toNat) (Int.ofNat 116)) _ _))) _ = _
  rw [eqQ_nat, eqQ_nat, eqQ_nat]
  have e8 : ∀ n : Nat, n < 256 → (c.toNat = n ↔ c = UInt8.ofNat n) := fun n hn => ⟨fun h => by rw [← h]; simp, fun h => by rw [h]; simp; omega⟩
  have q110 : (if c = 110 then some ((1, m9 l, 0, []) : V4) else if c = 102 then some (2, 0, (b29 l).foldl n9 0, []) else if c = 116 then some (3, 0, 0, un30 l) else none) =
      if c.toNat = 110 then some (1, m9 l, 0, []) else if c.toNat = 102 then some (2, 0, (b29 l).foldl n9 0, []) else if c.toNat = 116 then some (3, 0, 0, un30 l) else none := by
    have a1 := e8 110 (by decide)
    have a2 := e8 102 (by decide)
    have a3 := e8 116 (by decide)
    by_cases h1 : c = 110
    · rw [if_pos h1, if_pos (a1.2 h1)]
    · rw [if_neg h1, if_neg (fun h => h1 (a1.1 h))]
      by_cases h2 : c = 102
      · rw [if_pos h2, if_pos (a2.2 h2)]
      · rw [if_neg h2, if_neg (fun h => h2 (a2.1 h))]
        by_cases h3 : c = 116
        · rw [if_pos h3, if_pos (a3.2 h3)]
        · rw [if_neg h3, if_neg (fun h => h3 (a3.1 h))]
  show _ = some (out9 (match (if c = 110 then some ((1, m9 l, 0, []) : V4) else if c = 102 then some (2, 0, (b29 l).foldl n9 0, []) else if c = 116 then some (3, 0, 0, un30 l) else none) with | some v => look v (c :: l) | none => none))
  rw [q110]
  by_cases h1 : c.toNat = 110
  · rw [decide_eq_true h1, if_pos h1]
    have hh : ∀ ng : Bool, ng = neg9 l → andThen (r9_j10 1000 (c :: l) l ng (mk 0 0 0 []) (mk 1 0 0 [])) (sumK fun (x : (List UInt8 × Unit × Unit × Unit) × Unit × El t24 × El t24 × Unit) => r9_j25 1000 (Prod.fst (Prod.fst x)) (Prod.fst (Prod.snd (Prod.snd x))) (Prod.fst (Prod.snd (Prod.snd (Prod.snd x))))) = some (out9 (look (1, m9 l, 0, []) (c :: l))) := fun ng hg => by
      rw [hg, j10_9 (c :: l) l _ (by omega), andThen_st]
      show r9_j25 1000 (c :: l) (mk 0 0 0 []) (mk 1 (m9 l) 0 []) = _
      exact j25_9 (c :: l) _ (1, m9 l, 0, []) (m9_in l) (Nat.zero_le 500)
    cases l with
    | nil => exact hh false rfl
    | cons d r =>
      refine hh (eqQ (Int.ofNat d.toNat) (Int.ofNat 45)) ?_
      unfold neg9
      rw [eqQ_nat]
      have : d.toNat = 45 ↔ (d :: r).head? = some 45 := ⟨fun h => congrArg some (UInt8.toNat_inj.1 h), fun h => by have := Option.some.inj h; rw [this]; rfl⟩
      simp only [this]
  · rw [decide_eq_false h1, if_neg h1]
    by_cases h2 : c.toNat = 102
    · rw [decide_eq_true h2, if_pos h2]
      obtain ⟨f, h⟩ := r29_eq l
      show andThen (andThen (r29 1000 (l, Int.ofNat 8, PUnit.unit)) _) _ = _
      rw [h]
      show andThen (iterF _ 1000 ((c :: l, PUnit.unit, PUnit.unit, nums (b29 l), Int.ofNat 0, PUnit.unit), PUnit.unit, mk 0 0 0 [], mk 2 0 0 [], PUnit.unit)) _ = _
      have hb := b29_len l
      rw [loop9 1000 (c :: l) _ (b29 l) (by omega) (by omega), andThen_st]
      show r9_j25 1000 (c :: l) (mk 0 0 0 []) (mk 2 0 ((b29 l).foldl n9 0) []) = _
      exact j25_9 (c :: l) _ (2, 0, (b29 l).foldl n9 0, []) ⟨z0, z1, n9_lt _ _ zb⟩ (Nat.zero_le 500)
    · rw [decide_eq_false h2, if_neg h2]
      by_cases h3 : c.toNat = 116
      · rw [decide_eq_true h3, if_pos h3]
        show andThen (andThen (r30 1000 (l, PUnit.unit)) _) _ = _
        rw [r30_eq l (by omega)]
        have hb := un30_len l
        show r9_j25 1000 (c :: l) (mk 0 0 0 []) (mk 3 0 0 (un30 l)) = _
        exact j25_9 (c :: l) _ (3, 0, 0, un30 l) ⟨z0, z1, zb⟩ (show (un30 l).length ≤ 500 by omega)
      · rw [decide_eq_false h3, if_neg h3]
        rfl
/-- **the reference's ReadValue** -/
theorem r9_eq (s : List UInt8) (hs : s.length ≤ 1000) : r9 1000 (s, PUnit.unit) = some (out9 (rd s)) := by
  rw [← rd_same]
  have hbad : r9_j2 1000 s true (mk 0 0 0 []) = some (out9 none) := rfl
  show r9c 1000 s = _
  unfold r9c
  rw [lenQ_eq, leQ_nat, leQ_nat]
  by_cases h1 : s.length < 1
  · have e : rd9 s = none := by unfold rd9 cand9; rw [if_pos (.inl h1)]
    rw [e, decide_eq_false (show ¬ 1 ≤ s.length by omega)]
    exact hbad
  · rw [decide_eq_true (show 1 ≤ s.length by omega)]
    by_cases h2 : 100 < s.length
    · have e : rd9 s = none := by unfold rd9 cand9; rw [if_pos (.inr h2)]
      rw [e, decide_eq_false (show ¬ s.length ≤ 100 by omega)]
      exact hbad
    · rw [decide_eq_true (show s.length ≤ 100 by omega)]
      cases s with
      | nil => simp at h1
      | cons c l => exact j2_9 c l (by simp at h2; omega)
end L
end Go.Proofs.YtdmpneafeadbbaaGreatDoor
/- ReportValues: the law's run. Conditions: what the variables hold; the ranges of numbers. -/
set_option maxRecDepth 100000
set_option linter.unusedVariables false
namespace Go.Proofs.YtdmpneafeadbbaaGreatDoor
open Go Go.Abs Go.RowKit
namespace La
open L Vl Rv
theorem c7 (k m : Int) (b : Nat) (l : List UInt8) (hb : b < 18446744073709551616) (h0 : -9223372036854775808 ≤ m) (h1 : m ≤ 9223372036854775807) (hl : l.length ≤ 500) (w : World) :
    Calls Tryz.prog 7 #[vV k m b ⟨⟨l⟩⟩] w fun e w' => e = .returned (.tuple #[.string ⟨(if okv k m b l = true then txt k m b l else []).toArray⟩, .int .i64 (if okv k m b l = true then 0 else 8)]) ∧ Below w.heap.size w w' := by
  have h := calls_of_con (r7_ok 1000) rfl rfl rfl (r7_eq k m b l hb h0 h1 hl) w
  refine h.mono fun e w' ⟨h1, h2⟩ => ⟨?_, h2⟩
  rw [h1]
  cases okv k m b l <;> rfl
theorem c9 (s : ByteArray) (hs : s.size ≤ 1000) (w : World) : Calls Tryz.prog 9 #[.string s] w fun e w' => e = .returned (vO (rd s.data.toList)) ∧ Below w.heap.size w w' := by
  have h := calls_of_con (r9_ok 1000) rfl rfl rfl (r9_eq s.data.toList hs) w
  refine h.mono fun e w' ⟨h1, h2⟩ => ⟨?_, h2⟩
  rw [h1]
  cases rd s.data.toList with
  | none => rfl
  | some v => obtain ⟨k, m, b, l⟩ := v; rfl
theorem vO_eq (o : Option V4) : ∃ (k m b : Int) (t : ByteArray) (c : Int), vO o = .tuple #[.agg #[.int .u8 k, .int .i64 m, .int .u64 b, .string t], .int .i64 c] := by
  cases o with
  | none => exact ⟨_, _, _, _, _, rfl⟩
  | some v => obtain ⟨k, m, b, l⟩ := v; exact ⟨_, _, _, _, _, rfl⟩
set_option maxHeartbeats 800000 in
theorem run (k m : Int) (b : Nat) (l : List UInt8) (hb : b < 18446744073709551616) (h0 : -9223372036854775808 ≤ m) (h1 : m ≤ 9223372036854775807) (s : ByteArray) (w : World) (hv : Vars w) :
    Calls Tryz.prog 3 #[vV k m b ⟨⟨l⟩⟩, .string s] w fun e w' => e = .returned (.bool true) ∧ Below w.heap.size w w' := by
  have mixed := mix
  by_cases hl : l.length ≤ 100
  · by_cases hs : s.size ≤ 150
    · have e6 := fun w1 => value k m b l hb h0 h1 (by omega) w1
      have e7 := c7 k m b l hb h0 h1 (by omega)
      have e8 := read s (by omega)
      have e9 := c9 s (by omega)
      obtain ⟨ok, om, ob, ot, oc, hO⟩ := vO_eq (rd s.data.toList)
      rw [hO] at e8 e9
      clear hO
      generalize (if okv k m b l = true then txt k m b l else []) = T at e6 e7
      generalize (if okv k m b l = true then (0 : Int) else 8) = C at e6 e7
      have hls : (⟨⟨l⟩⟩ : ByteArray).size ≤ 100 := hl
      unfold vV at *
      generalize (⟨⟨l⟩⟩ : ByteArray) = t at *
      have hlI : decide ((t.size : Int) > 100) = false := decide_eq_false (by omega)
      have hsI : decide ((s.size : Int) > 150) = false := decide_eq_false (by omega)
      have hv1 := hv.below ((Below.refl _ w).alloc (Nat.le_refl _) (.cells #[.int .u8 k, .int .i64 m, .int .u64 b, .string t] 24))
      have hb1 := ((Below.refl _ w).alloc (Nat.le_refl _) (.cells #[.int .u8 k, .int .i64 m, .int .u64 b, .string t] 24))
      go_enter Tryz.func3, Tryz.ntmps3
      go_wp2_with (go_at_call 6; refine (e6 _ hv1).mono ?_)
      rintro e w2 ⟨rfl, hb2⟩
      have g2 : w2.heap[w.heap.size]? = some (.cells #[.int .u8 k, .int .i64 m, .int .u64 b, .string t] 24 (0, 0)) := (hb2.block _ (by simp)).trans (Tx.heap_new _ _)
      obtain ⟨⟨a0, a1, a2, a3⟩, _, _, _, _⟩ := Tx.box4 g2
      have hb2 := hb1.trans (hb2.mono (by simp))
      go_wp2_with (go_at_call 7; refine (e7 _).mono ?_)
      rintro e w3 ⟨rfl, hb3⟩
      have hb3 := hb2.trans (hb3.mono hb2.size)
      clear a0 a1 a2 a3 g2 hb2 hb1 hv1
      go_wp2_with (go_at_call 8; refine (e8 _ (hv.below hb3)).mono ?_)
      rintro e w4 ⟨rfl, hb4⟩
      have hb4 := hb3.trans (hb4.mono hb3.size)
      clear hb3
      go_wp2_with (go_at_call 9; refine (e9 _).mono ?_)
      rintro e w5 ⟨rfl, hb5⟩
      have g5 : w5.heap[w4.heap.size]? = some (.cells #[.int .u8 ok, .int .i64 om, .int .u64 ob, .string ot] 24 (0, 0)) := (hb5.block _ (by simp)).trans (Tx.heap_new _ _)
      obtain ⟨⟨a0, a1, a2, a3⟩, _, _, _, _⟩ := Tx.box4 g5
      have hb5 := (hb4.alloc hb4.size (.cells #[.int .u8 ok, .int .i64 om, .int .u64 ob, .string ot] 24)).trans (hb5.mono (by have := hb4.size; simp; omega))
      have hlt : w4.heap.size < w5.heap.size := by
        rcases Nat.lt_or_ge w4.heap.size w5.heap.size with h | h
        · exact h
        · rw [Array.getElem?_eq_none h] at g5; cases g5
      clear hb4 g5
      go_wp2
      go_ret
      exact ⟨rfl, hb5.alloc hb5.size _⟩
    · have hls : (⟨⟨l⟩⟩ : ByteArray).size ≤ 100 := hl
      unfold vV
      generalize (⟨⟨l⟩⟩ : ByteArray) = t at *
      have hlI : decide ((t.size : Int) > 100) = false := decide_eq_false (by omega)
      have hsI : decide ((s.size : Int) > 150) = true := decide_eq_true (by omega)
      have hb1 := ((Below.refl _ w).alloc (Nat.le_refl _) (.cells #[.int .u8 k, .int .i64 m, .int .u64 b, .string t] 24))
      go_enter Tryz.func3, Tryz.ntmps3
      go_wp2_with fail
      go_ret
      exact ⟨rfl, hb1⟩
  · have hls : ¬ (⟨⟨l⟩⟩ : ByteArray).size ≤ 100 := hl
    unfold vV
    generalize (⟨⟨l⟩⟩ : ByteArray) = t at *
    have hlI : decide ((t.size : Int) > 100) = true := decide_eq_true (by omega)
    have hb1 := ((Below.refl _ w).alloc (Nat.le_refl _) (.cells #[.int .u8 k, .int .i64 m, .int .u64 b, .string t] 24))
    go_enter Tryz.func3, Tryz.ntmps3
    go_wp2_with fail
    go_ret
    exact ⟨rfl, hb1⟩
end La
end Go.Proofs.YtdmpneafeadbbaaGreatDoor
