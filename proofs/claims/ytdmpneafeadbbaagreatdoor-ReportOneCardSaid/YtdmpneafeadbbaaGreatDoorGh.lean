/- Texts of this claim, joined: each says ahead what it shows. Conditions: those of each contract. -/
import Derived.Test.YtdmpneafeadbbaaGreatDoorGg
import Derived.Test.YtdmpneafeadbbaaGreatDoorGa
set_option linter.unusedSimpArgs false
set_option maxRecDepth 100000
set_option linter.unusedVariables false
namespace Go.Proofs.YtdmpneafeadbbaaGreatDoor
open Go Go.Abs Go.RowKit
namespace L
open Vl
theorem dec_small {u : Nat} (h : u < 10) : Lib.decDigits u = [UInt8.ofNat (48 + u)] := by rw [Lib.decDigits, dif_pos h]
theorem dec_big {u : Nat} (h : ¬ u < 10) : Lib.decDigits u = Lib.decDigits (u / 10) ++ [UInt8.ofNat (48 + u % 10)] := by rw [Lib.decDigits, dif_neg h]
theorem txt1 (m : Int) (b : Nat) (l : List UInt8) : txt 1 m b l = 110 :: Lib.itoa m := rfl
theorem txt2 (m : Int) (b : Nat) (l : List UInt8) : txt 2 m b l = 102 :: Bd.hex (be8 b) := rfl
theorem txt3 (m : Int) (b : Nat) (l : List UInt8) : txt 3 m b l = 116 :: Es.esc l := rfl
theorem okv_kind {k m : Int} {b : Nat} {l : List UInt8} (h : okv k m b l = true) : k = 1 ∨ k = 2 ∨ (k = 3 ∧ l.length ≤ 30) := by
  unfold okv at h
  by_cases h1 : k = 1
  · exact .inl h1
  · by_cases h2 : k = 2
    · exact .inr (.inl h2)
    · by_cases h3 : k = 3
      · rw [if_neg h1, if_neg h2, if_pos h3] at h
        simp only [Bool.and_eq_true, decide_eq_true_eq] at h
        exact .inr (.inr ⟨h3, h.1.2⟩)
      · rw [if_neg h1, if_neg h2, if_neg h3] at h; cases h
end L
end Go.Proofs.YtdmpneafeadbbaaGreatDoor
set_option maxRecDepth 100000
set_option linter.unusedVariables false
namespace Go.Proofs.YtdmpneafeadbbaaGreatDoor
open Go Go.Abs Go.RowKit
namespace L
open Vl
theorem ofNat_digit (u : Nat) (h : u < 10) : (UInt8.ofNat (48 + u)).toNat = 48 + u := by simp; omega
theorem dec_ne (u : Nat) : Lib.decDigits u ≠ [] := by
  by_cases h : u < 10
  · rw [dec_small h]; simp
  · rw [dec_big h]; simp
def hv (c : UInt8) : Nat := if 48 ≤ c.toNat ∧ c.toNat ≤ 57 then c.toNat - 48 else if 97 ≤ c.toNat ∧ c.toNat ≤ 102 then c.toNat - 87 else 16
def up {α : Type} (o : Option (List α)) (x : α) : Option (List α) := some (match o with | none => [x] | some l => l ++ [x])
end L
end Go.Proofs.YtdmpneafeadbbaaGreatDoor
set_option maxRecDepth 100000
set_option linter.unusedVariables false
namespace Go.Proofs.YtdmpneafeadbbaaGreatDoor
open Go Go.Abs Go.RowKit
namespace L
open Vl Rv
theorem une_esc : ∀ t : List UInt8, Wg.une (Es.esc t) = t
  | [] => rfl
  | c :: t => by
    show Wg.une (Es.esc1 c ++ Es.esc t) = _
    have ih := une_esc t
    unfold Es.esc1
    by_cases h : c = 32
    · rw [if_pos h, h]
      show Wg.une (92 :: 115 :: Es.esc t) = _
      rw [Wg.une, if_neg (by decide), if_pos ⟨rfl, rfl⟩, ih]
    · rw [if_neg h]
      by_cases h2 : c = 92
      · rw [if_pos h2, h2]
        show Wg.une (92 :: 92 :: Es.esc t) = _
        rw [Wg.une, if_pos ⟨rfl, rfl⟩, ih]
      · rw [if_neg h2]
        show Wg.une (c :: Es.esc t) = _
        rw [Wg.une_skip c _ (.inl h2), ih]
end L
end Go.Proofs.YtdmpneafeadbbaaGreatDoor
