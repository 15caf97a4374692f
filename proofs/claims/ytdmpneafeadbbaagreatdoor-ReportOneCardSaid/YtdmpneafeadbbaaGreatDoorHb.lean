/- Texts of this claim, joined: each says ahead what it shows. Conditions: those of each contract. -/
import Derived.Test.YtdmpneafeadbbaaGreatDoorGi
import Derived.Handy
set_option linter.unusedSimpArgs false
set_option maxRecDepth 100000
set_option linter.unusedVariables false
namespace Go.Proofs.YtdmpneafeadbbaaGreatDoor
open Go Go.Abs Go.RowKit
namespace L
open Vl Rv
def Dark (c : UInt8) : Prop := 32 < c.toNat ∧ c.toNat ≤ 126
theorem dark_dig (i : Nat) (h : i < 16) : Dark (Bd.dig i) := by
  have : ∀ i : Fin 16, 32 < (Bd.dig i.1).toNat ∧ (Bd.dig i.1).toNat ≤ 126 := by decide
  exact this ⟨i, h⟩
theorem dark_hex : ∀ (bs : List UInt8), ∀ c ∈ Bd.hex bs, Dark c
  | [], c, h => by cases h
  | d :: bs, c, h => by
    have hd := d.toNat_lt
    rcases List.mem_cons.1 h with rfl | h
    · exact dark_dig _ (by omega)
    · rcases List.mem_cons.1 h with rfl | h
      · exact dark_dig _ (by omega)
      · exact dark_hex bs c h
theorem dark_dec (u : Nat) : ∀ c ∈ Lib.decDigits u, Dark c := fun c h => by
  have := dec_all u c h
  exact ⟨by omega, by omega⟩
theorem dark_itoa (m : Int) : ∀ c ∈ Lib.itoa m, Dark c := fun c h => by
  unfold Lib.itoa at h
  split at h
  · rcases List.mem_cons.1 h with rfl | h
    · exact ⟨by decide, by decide⟩
    · exact dark_dec _ c h
  · exact dark_dec _ c h
theorem dark_esc : ∀ (l : List UInt8), Tx.printB l = true → ∀ c ∈ Es.esc l, Dark c
  | [], _, c, h => by cases h
  | d :: l, hp, c, h => by
    have hp' : (!Tx.pr d.toNat && Tx.printB l) = true := by
      unfold Tx.printB at hp
      rw [List.all_cons] at hp
      exact hp
    rw [Bool.and_eq_true] at hp'
    have hd : 32 ≤ d.toNat ∧ d.toNat ≤ 126 := by
      have := hp'.1
      unfold Tx.pr at this
      simp at this
      omega
    have h : c ∈ Es.esc1 d ++ Es.esc l := h
    rcases List.mem_append.1 h with h | h
    · unfold Es.esc1 at h
      split at h
      · rcases List.mem_cons.1 h with rfl | h
        · exact ⟨by decide, by decide⟩
        · rw [List.mem_singleton.1 h]; exact ⟨by decide, by decide⟩
      · rename_i h32
        split at h
        · rcases List.mem_cons.1 h with rfl | h
          · exact ⟨by decide, by decide⟩
          · rw [List.mem_singleton.1 h]; exact ⟨by decide, by decide⟩
        · rw [List.mem_singleton.1 h]
          have : d.toNat ≠ 32 := fun e => h32 (UInt8.toNat_inj.1 e)
          exact ⟨by omega, hd.2⟩
    · exact dark_esc l hp'.2 c h
theorem okv3p {m : Int} {b : Nat} {l : List UInt8} (h : okv 3 m b l = true) : Tx.printB l = true := by
  unfold okv at h
  rw [if_neg (by decide), if_neg (by decide), if_pos rfl] at h
  simp only [Bool.and_eq_true] at h
  exact h.2
theorem txt_dark (v : V4) (ho : okv v.1 v.2.1 v.2.2.1 v.2.2.2 = true) : ∀ c ∈ txt v.1 v.2.1 v.2.2.1 v.2.2.2, Dark c := by
  obtain ⟨k, m, b, l⟩ := v
  simp only at *
  intro c hc
  rcases okv_kind ho with rfl | rfl | ⟨rfl, hl⟩
  · rw [txt1] at hc
    rcases List.mem_cons.1 hc with rfl | hc
    · exact ⟨by decide, by decide⟩
    · exact dark_itoa m c hc
  · rw [txt2] at hc
    rcases List.mem_cons.1 hc with rfl | hc
    · exact ⟨by decide, by decide⟩
    · exact dark_hex _ c hc
  · rw [txt3] at hc
    rcases List.mem_cons.1 hc with rfl | hc
    · exact ⟨by decide, by decide⟩
    · exact dark_esc l (okv3p ho) c hc
theorem txt_len61 (v : V4) (h : In v) (ho : okv v.1 v.2.1 v.2.2.1 v.2.2.2 = true) : 1 ≤ (txt v.1 v.2.1 v.2.2.1 v.2.2.2).length ∧ (txt v.1 v.2.1 v.2.2.1 v.2.2.2).length ≤ 61 := by
  obtain ⟨k, m, b, l⟩ := v
  obtain ⟨h0, h1, hb⟩ := h
  simp only at *
  rcases okv_kind ho with rfl | rfl | ⟨rfl, hl⟩
  · have := itoa_len m h0 h1
    rw [txt1, List.length_cons]; omega
  · rw [txt2, List.length_cons, Bd.hex_length]
    have : (be8 b).length = 8 := rfl
    omega
  · rw [txt3, List.length_cons, Es.esc_length]
    have := Es.cnt_le l
    omega
theorem txt_inj {v v' : V4} (h : In v) (ho : okv v.1 v.2.1 v.2.2.1 v.2.2.2 = true) (h' : In v') (ho' : okv v'.1 v'.2.1 v'.2.2.1 v'.2.2.2 = true) (he : txt v.1 v.2.1 v.2.2.1 v.2.2.2 = txt v'.1 v'.2.1 v'.2.2.1 v'.2.2.2) : v = v' := by
  have h1 := cand_txt v h ho
  rw [he, cand_txt v' h' ho'] at h1
  exact (Option.some.inj h1).symm
end L
end Go.Proofs.YtdmpneafeadbbaaGreatDoor
set_option maxRecDepth 100000
set_option linter.unusedVariables false
namespace Go.Proofs.YtdmpneafeadbbaaGreatDoor
open Go Go.Abs Go.RowKit
namespace La
open L Vl Rv
set_option maxHeartbeats 800000 in
theorem writes (k m : Int) (b : Nat) (l : List UInt8) (s : ByteArray) (h : Reads s.data.toList (k, m, b, l)) (hl : l.length ≤ 500) (hs : s.size ≤ 500) (w : World) (hv : Vars w) :
    Calls Tryz.prog 31 #[vV k m b ⟨⟨l⟩⟩, .string s] w fun e w' => e = .returned (.bool true) ∧ Below w.heap.size w w' := by
  have mixed := mix
  have e8 := read s (by omega)
  have hrd := (rd_iff _ _).2 h
  rw [hrd] at e8
  obtain ⟨⟨h0, h1, hb⟩, ho, ht⟩ := h
  simp only at h0 h1 hb ho ht
  have e6 := fun w1 => value k m b l hb h0 h1 (by omega) w1
  rw [ho, if_pos rfl, if_pos rfl, ht] at e6
  have hss : (⟨s.data.toList.toArray⟩ : ByteArray) = s := rfl
  rw [hss] at e6
  have e8 : ∀ w, Vars w → Calls Tryz.prog 8 #[.string s] w fun e w' => e = .returned (.tuple #[.agg #[.int .u8 k, .int .i64 m, .int .u64 b, .string ⟨⟨l⟩⟩], .int .i64 0]) ∧ Below w.heap.size w w' := e8
  unfold vV at e6 ⊢
  have hv1 := hv.below ((Below.refl _ w).alloc (Nat.le_refl _) (.cells #[.int .u8 k, .int .i64 m, .int .u64 b, .string ⟨⟨l⟩⟩] 24))
  have hb1 := ((Below.refl _ w).alloc (Nat.le_refl _) (.cells #[.int .u8 k, .int .i64 m, .int .u64 b, .string ⟨⟨l⟩⟩] 24))
  clear hss hrd ho ht h0 h1 hb
  generalize (⟨⟨l⟩⟩ : ByteArray) = t at *
  go_enter Tryz.func31, Tryz.ntmps31
  go_wp2_with (go_at_call 6; refine (e6 _ hv1).mono ?_)
  rintro e w2 ⟨rfl, hb2⟩
  have g2 : w2.heap[w.heap.size]? = some (.cells #[.int .u8 k, .int .i64 m, .int .u64 b, .string t] 24 (0, 0)) := (hb2.block _ (by simp)).trans (Tx.heap_new _ _)
  have hb2 := hb1.trans (hb2.mono (by simp))
  have hlt : w.heap.size < w2.heap.size := by
    rcases Nat.lt_or_ge w.heap.size w2.heap.size with h | h
    · exact h
    · rw [Array.getElem?_eq_none h] at g2; cases g2
  clear hv1 hb1
  go_wp2_with (go_at_call 8; refine (e8 _ (hv.below hb2)).mono ?_)
  rintro e w3 ⟨rfl, hb3⟩
  have g3 := (hb3.block _ hlt).trans g2
  have hb3 := hb2.trans (hb3.mono hb2.size)
  obtain ⟨⟨a0, a1, a2, a3⟩, _, _, _, _⟩ := Tx.box4 g3
  have hlt3 : w.heap.size < w3.heap.size := by
    rcases Nat.lt_or_ge w.heap.size w3.heap.size with h | h
    · exact h
    · rw [Array.getElem?_eq_none h] at g3; cases g3
  clear g2 g3 hb2 hlt
  go_wp2
  go_ret
  exact ⟨rfl, hb3.alloc hb3.size _⟩
end La
end Go.Proofs.YtdmpneafeadbbaaGreatDoor
set_option maxRecDepth 100000
set_option linter.unusedVariables false
namespace Go.Proofs.YtdmpneafeadbbaaGreatDoor
open Go Go.Abs Go.RowKit
namespace La
open L Vl Rv
theorem lt_heap {w : World} {b : Nat} {o : Obj} (h : w.heap[b]? = some o) : b < w.heap.size := by
  rcases Nat.lt_or_ge b w.heap.size with h' | h'
  · exact h'
  · rw [Array.getElem?_eq_none h'] at h; cases h
theorem box4s {w : World} {M T : Nat} {a b c d : Value} (h : w.heap[M]? = some (.cells #[a, b, c, d] T (0, 0))) : (w.cell? ⟨M, 0, none⟩ = some a ∧ w.cell? ⟨M, 1, none⟩ = some b ∧ w.cell? ⟨M, 2, none⟩ = some c ∧ w.cell? ⟨M, 3, none⟩ = some d) ∧
    w.frozen? ⟨M, 0, none⟩ = false ∧ w.frozen? ⟨M, 1, none⟩ = false ∧ w.frozen? ⟨M, 2, none⟩ = false ∧ w.frozen? ⟨M, 3, none⟩ = false :=
  ⟨⟨(Lib.cell_of_heap h 0).trans rfl, (Lib.cell_of_heap h 1).trans rfl, (Lib.cell_of_heap h 2).trans rfl, (Lib.cell_of_heap h 3).trans rfl⟩, Lib.frozen_of_heap h 0, Lib.frozen_of_heap h 1, Lib.frozen_of_heap h 2, Lib.frozen_of_heap h 3⟩
def noState : Value := .agg #[.int .i64 0, .slice none 0 0, .slice none 0 0, .slice none 0 0]
set_option maxHeartbeats 800000 in
theorem check45 (w : World) : Calls Tryz.prog 45 #[.agg #[.slice none 0 0]] w fun e w' => e = .returned (.int .i64 0) ∧ Below w.heap.size w w' := by
  have mixed := mix
  go_enter Tryz.func45, Tryz.ntmps45
  go_wp2
  refine wp_loop_rounds 1 ?_
  rw [rounds_succ]
  go_wp2
  go_ret
  exact ⟨rfl, (Below.refl _ _).alloc (Nat.le_refl _) _⟩
set_option maxHeartbeats 800000 in
theorem check46 (w : World) : Calls Tryz.prog 46 #[.agg #[.slice none 0 0]] w fun e w' => e = .returned (.int .i64 0) ∧ Below w.heap.size w w' := by
  have mixed := mix
  go_enter Tryz.func46, Tryz.ntmps46
  go_wp2
  refine wp_loop_rounds 1 ?_
  rw [rounds_succ]
  go_wp2
  go_ret
  exact ⟨rfl, (Below.refl _ _).alloc (Nat.le_refl _) _⟩
set_option maxHeartbeats 800000 in
theorem check15 (w : World) : Calls Tryz.prog 15 #[noState] w fun e w' => e = .returned (.int .i64 0) ∧ Below w.heap.size w w' := by
  have mixed := mix
  unfold noState
  go_enter Tryz.func15, Tryz.ntmps15
  go_wp2_with (go_at_call 45; refine (check45 _).mono ?_)
  rintro e w1 ⟨rfl, hb1⟩
  have g1 : w1.heap[w.heap.size]? = some (.cells #[.int .i64 0, .slice none 0 0, .slice none 0 0, .slice none 0 0] 47 (0, 0)) := (hb1.block _ (by simp)).trans (Tx.heap_new _ _)
  have hb1 := ((Below.refl _ w).alloc (Nat.le_refl _) (.cells #[.int .i64 0, .slice none 0 0, .slice none 0 0, .slice none 0 0] 47)).trans (hb1.mono (by simp))
  obtain ⟨⟨a0, a1, a2, a3⟩, _, _, _, _⟩ := box4s g1
  go_wp2_with (go_at_call 46; refine (check46 _).mono ?_)
  rintro e w2 ⟨rfl, hb2⟩
  have g2 := (hb2.block _ (lt_heap g1)).trans g1
  have hb2 := hb1.trans (hb2.mono hb1.size)
  clear a0 a1 a2 a3 g1 hb1
  obtain ⟨⟨a0, a1, a2, a3⟩, _, _, _, _⟩ := box4s g2
  clear g2
  go_wp2
  refine wp_loop_rounds 1 ?_
  rw [rounds_succ]
  go_wp2
  go_ret
  exact ⟨rfl, hb2⟩
end La
end Go.Proofs.YtdmpneafeadbbaaGreatDoor
set_option maxRecDepth 100000
set_option linter.unusedVariables false
namespace Go.Proofs.YtdmpneafeadbbaaGreatDoor
open Go Go.Abs Go.RowKit
namespace La
set_option maxHeartbeats 800000 in
theorem num0 (w : World) : Calls Tryz.prog 42 #[.int .i64 0] w fun e w' => e = .returned (.string ⟨#[48]⟩) ∧ Below w.heap.size w w' := by
  have mixed := mix
  go_enter Tryz.func42, Tryz.ntmps42
  go_wp2
  go_ret
  exact ⟨rfl, Below.refl _ _⟩
end La
end Go.Proofs.YtdmpneafeadbbaaGreatDoor
