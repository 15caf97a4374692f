/- Texts of this claim, joined: each says ahead what it shows. Conditions: those of each contract. -/
import Derived.Test.YtdmpneafeadbbaaGreatDoorGh
import Derived.Lib.ParseIntBTie
import Derived.Lib.AtoiAllCases
set_option linter.unusedSimpArgs false
set_option maxRecDepth 100000
set_option linter.unusedVariables false
namespace Go.Proofs.YtdmpneafeadbbaaGreatDoor
open Go Go.Abs Go.RowKit
namespace L
open Vl Rv
abbrev V4 : Type := Int × Int × Nat × List UInt8
def In (v : V4) : Prop := -9223372036854775808 ≤ v.2.1 ∧ v.2.1 ≤ 9223372036854775807 ∧ v.2.2.1 < 18446744073709551616
def Reads (s : List UInt8) (v : V4) : Prop := In v ∧ okv v.1 v.2.1 v.2.2.1 v.2.2.2 = true ∧ txt v.1 v.2.1 v.2.2.1 v.2.2.2 = s
theorem z0 : (-9223372036854775808 : Int) ≤ 0 := by decide
theorem z1 : (0 : Int) ≤ 9223372036854775807 := by decide
theorem zb : (0 : Nat) < 18446744073709551616 := by decide
theorem pu_append : ∀ (l : List UInt8) (a v : Nat) (c : UInt8), Lib.parseUint10 a l = .ok v → 48 ≤ c.toNat → c.toNat ≤ 57 → v * 10 + (c.toNat - 48) < 18446744073709551616 → Lib.parseUint10 a (l ++ [c]) = .ok (v * 10 + (c.toNat - 48))
  | [], a, v, c, h, h1, h2, h3 => by
    have hv : a = v := by injection h
    subst hv
    show Lib.parseUint10 a [c] = _
    rw [Lib.parseUint10, if_pos ⟨h1, h2⟩, if_neg (by omega), if_neg (by omega)]; rfl
  | d :: l, a, v, c, h, h1, h2, h3 => by
    rw [Lib.parseUint10] at h
    show Lib.parseUint10 a (d :: (l ++ [c])) = _
    rw [Lib.parseUint10]
    split at h
    · rename_i hd
      rw [if_pos hd]
      split at h
      · cases h
      · rename_i h4
        rw [if_neg h4]
        split at h
        · cases h
        · rename_i h5
          rw [if_neg h5]
          exact pu_append l _ v c h h1 h2 h3
    · cases h
theorem pu_dec : ∀ (u : Nat), u < 18446744073709551616 → Lib.parseUint10 0 (Lib.decDigits u) = .ok u := by
  intro u
  induction u using Nat.strongRecOn with
  | _ u ih =>
    intro hu
    by_cases h : u < 10
    · rw [dec_small h, Lib.parseUint10, ofNat_digit u h, if_pos (by omega), if_neg (by omega), if_neg (by omega), Lib.parseUint10]
      congr 1
      omega
    · rw [dec_big h, pu_append _ _ (u / 10) _ (ih (u / 10) (by omega) (by omega)) (by rw [ofNat_digit _ (by omega)]; omega) (by rw [ofNat_digit _ (by omega)]; omega) (by rw [ofNat_digit _ (by omega)]; omega)]
      congr 1
      rw [ofNat_digit _ (by omega)]; omega
theorem dec_all : ∀ (u : Nat), ∀ c ∈ Lib.decDigits u, 48 ≤ c.toNat ∧ c.toNat ≤ 57 := by
  intro u
  induction u using Nat.strongRecOn with
  | _ u ih =>
    intro c hc
    by_cases h : u < 10
    · rw [dec_small h, List.mem_singleton] at hc
      rw [hc, ofNat_digit u h]; omega
    · rw [dec_big h, List.mem_append, List.mem_singleton] at hc
      rcases hc with hc | hc
      · exact ih (u / 10) (by omega) c hc
      · rw [hc, ofNat_digit _ (by omega)]; omega
theorem parse_itoa (m : Int) (h0 : -9223372036854775808 ≤ m) (h1 : m ≤ 9223372036854775807) : Lib.parseIntB 64 (Lib.itoa m) = .ok m := by
  rw [Lib.parseIntB_64]
  unfold Lib.itoa
  by_cases hm : m < 0
  · rw [if_pos hm, Lib.atoiAll_minus]
    unfold Lib.parseMag
    rw [if_neg (dec_ne _), pu_dec _ (by omega), Lib.signed, if_neg (by omega)]
    congr 1
    omega
  · rw [if_neg hm]
    have hp : Lib.atoiAll (Lib.decDigits m.toNat) = Lib.signless (Lib.parseMag (Lib.decDigits m.toNat)) := by
      have ha := dec_all m.toNat
      cases hd : Lib.decDigits m.toNat with
      | nil => exact absurd hd (dec_ne _)
      | cons c r =>
        rw [hd] at ha
        have := ha c (List.mem_cons_self ..)
        exact Lib.atoiAll_plain c r (by omega) (by omega)
    rw [hp]
    unfold Lib.parseMag
    rw [if_neg (dec_ne _), pu_dec _ (by omega), Lib.signless, if_neg (by omega)]
    congr 1
    omega
theorem dv_dig (i : Nat) (h : i < 16) : Ph.dv (Bd.dig i) = i := by
  have : ∀ i : Fin 16, Ph.dv (Bd.dig i.1) = i.1 := by decide
  exact this ⟨i, h⟩
def num : Nat → List UInt8 → Nat
  | a, [] => a
  | a, c :: l => num (a * 256 + c.toNat) l
theorem p16_hex : ∀ (bs : List UInt8) (a : Nat), (a + 1) * 256 ^ bs.length ≤ 18446744073709551616 → Ph.p16 a (Bd.hex bs) = some (num a bs)
  | [], a, _ => rfl
  | c :: bs, a, h => by
    have hc := c.toNat_lt
    have hp : 0 < 256 ^ bs.length := Nat.pow_pos (by decide)
    have h2 : (a + 1) * 256 * 256 ^ bs.length ≤ 18446744073709551616 := by
      rw [List.length_cons, Nat.pow_succ, Nat.mul_comm (256 ^ bs.length) 256, ← Nat.mul_assoc] at h
      exact h
    have h1 : (a + 1) * 256 ≤ 18446744073709551616 := Nat.le_trans (Nat.le_mul_of_pos_right _ hp) h2
    show Ph.p16 a (Bd.dig (c.toNat / 16) :: Bd.dig (c.toNat % 16) :: Bd.hex bs) = _
    rw [Ph.p16, dv_dig _ (by omega), if_pos ⟨by omega, by omega⟩, Ph.p16, dv_dig _ (by omega), if_pos ⟨by omega, by omega⟩]
    have e : (a * 16 + c.toNat / 16) * 16 + c.toNat % 16 = a * 256 + c.toNat := by omega
    rw [e]
    exact p16_hex bs (a * 256 + c.toNat) (Nat.le_trans (Nat.mul_le_mul_right _ (by omega)) h2)
theorem num_be8 (b : Nat) (hb : b < 18446744073709551616) : num 0 (be8 b) = b := by
  unfold be8
  simp only [num, UInt8.toNat_ofNat']
  omega
theorem p16_be8 (b : Nat) (hb : b < 18446744073709551616) : Ph.p16 0 (Bd.hex (be8 b)) = some b := by
  rw [p16_hex (be8 b) 0 (show (0 + 1) * 256 ^ 8 ≤ 18446744073709551616 by decide), num_be8 b hb]
theorem okv1 {m : Int} {b : Nat} {l : List UInt8} (h : okv 1 m b l = true) : b = 0 ∧ l = [] := by
  unfold okv at h
  rw [if_pos rfl] at h
  simpa using h
theorem okv2 {m : Int} {b : Nat} {l : List UInt8} (h : okv 2 m b l = true) : m = 0 ∧ l = [] := by
  unfold okv at h
  rw [if_neg (by decide), if_pos rfl] at h
  simp only [Bool.and_eq_true, decide_eq_true_eq] at h
  exact h.1
theorem okv3 {m : Int} {b : Nat} {l : List UInt8} (h : okv 3 m b l = true) : m = 0 ∧ b = 0 ∧ l.length ≤ 30 := by
  unfold okv at h
  rw [if_neg (by decide), if_neg (by decide), if_pos rfl] at h
  simp only [Bool.and_eq_true, decide_eq_true_eq] at h
  exact ⟨h.1.1.1, h.1.1.2, h.1.2⟩
theorem cand_txt (v : V4) (h : In v) (ho : okv v.1 v.2.1 v.2.2.1 v.2.2.2 = true) : cand (txt v.1 v.2.1 v.2.2.1 v.2.2.2) = some v := by
  obtain ⟨k, m, b, l⟩ := v
  obtain ⟨h0, h1, hb⟩ := h
  simp only at *
  rcases okv_kind ho with rfl | rfl | ⟨rfl, _⟩
  · obtain ⟨rfl, rfl⟩ := okv1 ho
    rw [txt1, cand, if_pos rfl, parse_itoa m h0 h1]
  · obtain ⟨rfl, rfl⟩ := okv2 ho
    have hne : Bd.hex (be8 b) ≠ [] := fun h => by
      have := congrArg List.length h
      rw [Bd.hex_length] at this
      cases this
    rw [txt2, cand, if_neg (by decide), if_pos rfl, if_neg hne, p16_be8 b hb]
  · obtain ⟨rfl, rfl, _⟩ := okv3 ho
    rw [txt3, cand, if_neg (by decide), if_neg (by decide), if_pos rfl, une_esc]
theorem cand_in {s : List UInt8} {v : V4} (h : cand s = some v) : In v := by
  cases s with
  | nil => cases h
  | cons c l =>
    rw [cand] at h
    split at h
    · split at h
      · rename_i m hm
        cases h
        obtain ⟨h0, h1⟩ := Lib.parseIntB_bounds hm
        exact ⟨h0, Int.le_of_lt_add_one h1, zb⟩
      · cases h
    · split at h
      · split at h
        · rename_i b hb
          cases h
          by_cases hn : l = []
          · rw [if_pos hn] at hb; cases hb
          · rw [if_neg hn] at hb
            exact ⟨z0, z1, p16_lt _ _ _ (by decide) hb⟩
        · cases h
      · split at h
        · cases h; exact ⟨z0, z1, zb⟩
        · cases h; exact ⟨z0, z1, zb⟩
theorem rd_iff (s : List UInt8) (v : V4) : rd s = some v ↔ Reads s v := by
  unfold rd Reads
  constructor
  · intro h
    cases hc : cand s with
    | none => rw [hc] at h; cases h
    | some u =>
      rw [hc] at h
      obtain ⟨k, m, b, l⟩ := u
      simp only at h
      split at h
      · rename_i h2
        cases h
        exact ⟨cand_in hc, h2⟩
      · cases h
  · rintro ⟨h1, h2, h3⟩
    have hc := cand_txt v h1 h2
    rw [h3] at hc
    rw [hc]
    obtain ⟨k, m, b, l⟩ := v
    simp only at *
    rw [if_pos ⟨h2, h3⟩]
theorem itoa_len (m : Int) (h0 : -9223372036854775808 ≤ m) (h1 : m ≤ 9223372036854775807) : (Lib.itoa m).length ≤ 21 := Lib.itoa_length_le m h0 h1
end L
end Go.Proofs.YtdmpneafeadbbaaGreatDoor
set_option maxRecDepth 100000
set_option linter.unusedVariables false
namespace Go.Proofs.YtdmpneafeadbbaaGreatDoor
open Go Go.Abs Go.RowKit
namespace L
open Vl Rv
noncomputable def look (v : V4) (s : List UInt8) : Option V4 := if okv v.1 v.2.1 v.2.2.1 v.2.2.2 = true ∧ txt v.1 v.2.1 v.2.2.1 v.2.2.2 = s then some v else none
end L
end Go.Proofs.YtdmpneafeadbbaaGreatDoor
