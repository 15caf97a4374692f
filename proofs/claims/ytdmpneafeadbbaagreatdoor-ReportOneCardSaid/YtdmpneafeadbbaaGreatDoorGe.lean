/- Texts of this claim, joined: each says ahead what it shows. Conditions: those of each contract. -/
import Derived.Test.YtdmpneafeadbbaaGreatDoorGd
import Derived.Test.YtdmpneafeadbbaaGreatDoorGc
import Derived.Lib.ItoaLen
import Derived.Deep.RegionHeld3
import Derived.Test.YtdmpneafeadbbaaGreatDoorGa
import Derived.Test.YtdmpneafeadbbaaGreatDoorMachF
import Derived.Handy
set_option linter.unusedSimpArgs false
set_option maxRecDepth 100000
set_option linter.unusedVariables false
namespace Go.Proofs.YtdmpneafeadbbaaGreatDoor
open Go Go.Abs Go.RowKit
namespace Vl
structure Vars (w : World) : Prop where
  pow : Lib.TabIs Tryz.prog w "internal/strconv.uint64pow10" .u64 Lib.pow10Tab
  syn : ∃ t p, w.cell? ⟨1, 0, none⟩ = some (.iface t p)
  ran : ∃ t p, w.cell? ⟨2, 0, none⟩ = some (.iface t p)
  size : 6 ≤ w.heap.size
theorem Vars.below {w w' : World} (h : Vars w) (hb : Below w.heap.size w w') : Vars w' := by
  have hs := h.size
  refine ⟨?_, ?_, ?_, Nat.le_trans hs hb.size⟩
  · have h1 := h.pow
    have hg : Tryz.prog.globalNamed "internal/strconv.uint64pow10" = some 0 := by kernel_rfl
    unfold Lib.TabIs World.var? at h1 ⊢
    rw [hg] at h1 ⊢
    simp only [Option.bind_some] at h1 ⊢
    rw [hb.block 0 (by omega)]
    exact h1
  · obtain ⟨t, p, h1⟩ := h.syn
    exact ⟨t, p, (hb.cell (p := ⟨1, 0, none⟩) (show 1 < w.heap.size by omega)).trans h1⟩
  · obtain ⟨t, p, h1⟩ := h.ran
    exact ⟨t, p, (hb.cell (p := ⟨2, 0, none⟩) (show 2 < w.heap.size by omega)).trans h1⟩
theorem below_grow (w : World) (k : Nat) (os : Array Obj) : Below w.heap.size w (Go.Sort.grow (w.drewN k) os) :=
  ⟨rfl, rfl, rfl, by show w.heap.size ≤ (w.heap ++ os).size; simp, fun j hj => by
    show (w.heap ++ os)[j]? = _
    rw [Array.getElem?_append_left hj]⟩
def be8 (b : Nat) : List UInt8 := [UInt8.ofNat (b / 72057594037927936), UInt8.ofNat (b / 281474976710656), UInt8.ofNat (b / 1099511627776), UInt8.ofNat (b / 4294967296), UInt8.ofNat (b / 16777216), UInt8.ofNat (b / 65536), UInt8.ofNat (b / 256), UInt8.ofNat b]
def txt (k n : Int) (b : Nat) (t : List UInt8) : List UInt8 := if k = 1 then 110 :: Lib.itoa n else if k = 2 then 102 :: Bd.hex (be8 b) else 116 :: Es.esc t
def vV (k n b : Int) (t : ByteArray) : Value := .agg #[.int .u8 k, .int .i64 n, .int .u64 b, .string t]
theorem str_add (c : UInt8) (l : List UInt8) : (⟨#[c]⟩ : ByteArray) ++ ⟨l.toArray⟩ = ⟨(c :: l).toArray⟩ := by
  apply ByteArray.ext
  simp
set_option maxHeartbeats 2000000 in
theorem value_bad (k n b c : Int) (t : ByteArray) (w : World) (hc : ∀ w, Calls Tryz.prog 12 #[vV k n b t] w fun e w' => e = .returned (.int .i64 c) ∧ Below w.heap.size w w') (hne : c ≠ 0) :
    Calls Tryz.prog 6 #[vV k n b t] w fun e w' => e = .returned (.tuple #[.string ⟨#[]⟩, .int .i64 c]) ∧ Below w.heap.size w w' := by
  have mixed := mix
  unfold vV at hc ⊢
  have hb : (c != 0) = true := by simpa using hne
  go_enter Tryz.func6, Tryz.ntmps6
  go_wp2_with (go_at_call 12; refine (hc _).mono ?_)
  rintro e w1 ⟨rfl, hw1⟩
  have hw1 := ((Below.refl _ _).alloc (Nat.le_refl _) (Obj.cells #[Value.int IntKind.u8 k, Value.int IntKind.i64 n, Value.int IntKind.u64 b, Value.string t] 24)).trans (hw1.mono (by simp))
  go_wp2
  go_ret2
  exact ⟨rfl, hw1⟩
set_option maxHeartbeats 2000000 in
theorem value_num (n b : Int) (t : ByteArray) (w : World) (hv : Vars w) (hc : ∀ w, Calls Tryz.prog 12 #[vV 1 n b t] w fun e w' => e = .returned (.int .i64 0) ∧ Below w.heap.size w w') (h0 : -9223372036854775808 ≤ n) (h1 : n ≤ 9223372036854775807) :
    Calls Tryz.prog 6 #[vV 1 n b t] w fun e w' => e = .returned (.tuple #[.string ⟨(110 :: Lib.itoa n).toArray⟩, .int .i64 0]) ∧ Below w.heap.size w w' := by
  have mixed := mix
  unfold vV at hc ⊢
  have hf := fun w1 (h : Vars w1) => Tryz.strconv_FormatInt_10 n h0 h1 w1 h.pow
  have hlen := Lib.itoa_length_le n h0 h1
  clear h0 h1
  go_enter Tryz.func6, Tryz.ntmps6
  go_wp2_with (go_at_call 12; refine (hc _).mono ?_)
  rintro e w1 ⟨rfl, hw1⟩
  have hbk : w1.heap[w.heap.size]? = some (.cells #[.int .u8 1, .int .i64 n, .int .u64 b, .string t] 24 (0, 0)) := (hw1.block _ (by simp)).trans (Tx.heap_new _ _)
  obtain ⟨⟨c0, c1, c2, c3⟩, f0, f1, f2, f3⟩ := Tx.box4 hbk
  have hw1 := ((Below.refl _ _).alloc (Nat.le_refl _) (Obj.cells #[Value.int IntKind.u8 1, Value.int IntKind.i64 n, Value.int IntKind.u64 b, Value.string t] 24)).trans (hw1.mono (by simp))
  have hf1 := hf w1 (hv.below hw1)
  obtain ⟨l, ql⟩ : ∃ l, l = Lib.itoa n := ⟨_, rfl⟩
  rw [← ql] at hf1 hlen
  have HL := Lib.hid ql
  clear ql
  have hadd := str_add 110 l
  clear hf
  go_wp2_with (go_at_call 20; refine hf1.mono ?_)
  rintro e w2 ⟨rfl, k, os, rfl⟩
  have hb := hw1.trans ((below_grow w1 k os).mono hw1.size)
  go_wp2
  go_ret2
  refine ⟨?_, hb⟩
  rw [HL.out]
  rfl
theorem new_below {xs : List Value} {w w' : World} {N : Nat} (h : Nr.New xs w N w') : Below w.heap.size w w' := by
  obtain ⟨M, cap, cur, _, _, _, _, _, _, _, _, hb⟩ := h
  exact hb
set_option maxHeartbeats 2000000 in
theorem value_txt (k n b : Int) (t : ByteArray) (w : World) (h1 : k ≠ 1) (h2 : k ≠ 2) (ht : t.size ≤ 1000) (hc : ∀ w, Calls Tryz.prog 12 #[vV k n b t] w fun e w' => e = .returned (.int .i64 0) ∧ Below w.heap.size w w') :
    Calls Tryz.prog 6 #[vV k n b t] w fun e w' => e = .returned (.tuple #[.string ⟨(116 :: Es.esc t.data.toList).toArray⟩, .int .i64 0]) ∧ Below w.heap.size w w' := by
  have mixed := mix
  unfold vV at hc ⊢
  have hk1 : (k == 1) = false := by simpa using h1
  have hk2 : (k == 2) = false := by simpa using h2
  have hlen := Es.esc_length t.data.toList
  have hcl := Es.cnt_le t.data.toList
  have hsl : t.data.toList.length = t.size := rfl
  rw [hsl] at hlen hcl
  have hl : (Es.esc t.data.toList).length ≤ 2000 := by omega
  clear hlen hcl hsl h1 h2
  go_enter Tryz.func6, Tryz.ntmps6
  go_wp2_with (go_at_call 12; refine (hc _).mono ?_)
  rintro e w1 ⟨rfl, hw1⟩
  have hbk : w1.heap[w.heap.size]? = some (.cells #[.int .u8 k, .int .i64 n, .int .u64 b, .string t] 24 (0, 0)) := (hw1.block _ (by simp)).trans (Tx.heap_new _ _)
  obtain ⟨⟨c0, c1, c2, c3⟩, f0, f1, f2, f3⟩ := Tx.box4 hbk
  have hlt : w.heap.size < w1.heap.size := by have := hw1.size; simp at this; omega
  have hw1 := ((Below.refl _ _).alloc (Nat.le_refl _) (Obj.cells #[Value.int IntKind.u8 k, Value.int IntKind.i64 n, Value.int IntKind.u64 b, Value.string t] 24)).trans (hw1.mono (by simp))
  have hd0 : w1.drew.cell? ⟨w.heap.size, 3, none⟩ = some (.string t) := by rw [World.cell?_drew]; exact c3
  have hbd : Below w.heap.size w w1.drew := hw1.drew
  have hadd := str_add 116 (Es.esc t.data.toList)
  have hfit : ¬ (9223372036854775807 < 1 + (Es.esc t.data.toList).length) := by omega
  go_wp2
  go_region_held3 (fun w' => w'.cell? ⟨w.heap.size, 3, none⟩ = some (.string t) ∧ Below w.heap.size w w') (first | exact ⟨hd0, hbd⟩ | exact ⟨q1, q2⟩ | exact ⟨q3, q4⟩)
    (first
      | (go_at_call 22; refine (Nr.escaper w1.drew).mono ?_; rintro e w2 ⟨N, rfl, hN⟩;
         have q2 : Below w.heap.size w w2 := hbd.trans ((new_below hN).mono hbd.size);
         have q1 : w2.cell? ⟨w.heap.size, 3, none⟩ = some (.string t) := ((new_below hN).cell (p := ⟨w.heap.size, 3, none⟩) hlt).trans hd0)
      | (go_at_call 23; refine (Er.replace t _ _ _ hN ht).mono ?_; rintro e w3 ⟨rfl, h3⟩;
         have q4 : Below w.heap.size w w3 := hbd.trans (h3.mono hbd.size);
         have q3 : w3.cell? ⟨w.heap.size, 3, none⟩ = some (.string t) := (h3.cell (p := ⟨w.heap.size, 3, none⟩) hlt).trans hd0))
  all_goals first
    | (exfalso; omega)
    | (go_wp2; go_ret2; exact ⟨rfl, q4⟩)
def row (b : Nat) (k : Nat) : List Value := Lib.byteCells ((be8 b).take k) ++ List.replicate (8 - k) (.int .u8 0)
theorem row_step {b k : Nat} {w : World} {M : Nat} {v : Int} (hk : k < 8) (h : w.heap[M]? = some (.cells (row b k).toArray 59 (0, 0))) (hv : v = (((be8 b).getD k 0).toNat : Int)) :
    (w.setCell ⟨M, k, none⟩ (.int .u8 v)).heap[M]? = some (.cells (row b (k + 1)).toArray 59 (0, 0)) := by
  subst hv
  have : (row b k).set k (.int .u8 (((be8 b).getD k 0).toNat : Int)) = row b (k + 1) := by
    have hk' : k = 0 ∨ k = 1 ∨ k = 2 ∨ k = 3 ∨ k = 4 ∨ k = 5 ∨ k = 6 ∨ k = 7 := by omega
    rcases hk' with rfl | rfl | rfl | rfl | rfl | rfl | rfl | rfl <;> rfl
  rw [← this]
  simp [World.setCell, Array.getElem?_modify, h]
set_option maxHeartbeats 4000000 in
theorem value_flt (n : Int) (b : Nat) (t : ByteArray) (w : World) (hb : b < 18446744073709551616) (hc : ∀ w, Calls Tryz.prog 12 #[vV 2 n b t] w fun e w' => e = .returned (.int .i64 0) ∧ Below w.heap.size w w') :
    Calls Tryz.prog 6 #[vV 2 n b t] w fun e w' => e = .returned (.tuple #[.string ⟨(102 :: Bd.hex (be8 b)).toArray⟩, .int .i64 0]) ∧ Below w.heap.size w w' := by
  have mixed := mix
  unfold vV at hc ⊢
  go_enter Tryz.func6, Tryz.ntmps6
  go_wp2_with (go_at_call 12; refine (hc _).mono ?_)
  rintro e w1 ⟨rfl, hw1⟩
  have hbk : w1.heap[w.heap.size]? = some (.cells #[.int .u8 2, .int .i64 n, .int .u64 b, .string t] 24 (0, 0)) := (hw1.block _ (by simp)).trans (Tx.heap_new _ _)
  obtain ⟨⟨c0, c1, c2, c3⟩, f0, f1, f2, f3⟩ := Tx.box4 hbk
  have hlt : w.heap.size < w1.heap.size := by have := hw1.size; simp at this; omega
  have hw1 := ((Below.refl _ _).alloc (Nat.le_refl _) (Obj.cells #[Value.int IntKind.u8 2, Value.int IntKind.i64 n, Value.int IntKind.u64 b, Value.string t] 24)).trans (hw1.mono (by simp))
  go_wp2
  go_loopw [22] (fun vi wr => ∃ k : Nat, vi = .int .i64 k ∧ k ≤ 8 ∧ wr.heap[w1.heap.size]? = some (.cells (row b k).toArray 59 (0, 0)) ∧ Below w1.heap.size w1 wr) (fun vi _ => 8 - (intOf vi).toNat)
  case atStart =>
    refine ⟨0, rfl, Nat.zero_le _, Tx.heap_new _ _, (Below.refl _ _).alloc (Nat.le_refl _) _⟩
  case round =>
    obtain ⟨k, rfl, hk, hb1, hw⟩ := hrel
    by_cases hk8 : k < 8
    · have d2 := (hw.cell (p := ⟨w.heap.size, 2, none⟩) hlt).trans c2
      have dj : ∀ j, j < 8 → wr.frozen? ⟨w1.heap.size, j, none⟩ = false := fun j hj => Lib.frozen_of_heap hb1 j
      have hk' : k = 0 ∨ k = 1 ∨ k = 2 ∨ k = 3 ∨ k = 4 ∨ k = 5 ∨ k = 6 ∨ k = 7 := by omega
      clear hk hk8
      rcases hk' with rfl | rfl | rfl | rfl | rfl | rfl | rfl | rfl
      · have e1 := Lib.cell_of_heap hb1 0
        have e2 := dj 0 (by decide)
        go_wp2
        refine ⟨⟨1, rfl, by decide, row_step (by decide) hb1 ?_, hw.setCell (Nat.le_refl _) _⟩, by decide⟩
        simp [be8]
        omega
      · have e1 := Lib.cell_of_heap hb1 1
        have e2 := dj 1 (by decide)
        go_wp2
        refine ⟨⟨2, rfl, by decide, row_step (by decide) hb1 ?_, hw.setCell (Nat.le_refl _) _⟩, by decide⟩
        simp [be8]
      · have e1 := Lib.cell_of_heap hb1 2
        have e2 := dj 2 (by decide)
        go_wp2
        refine ⟨⟨3, rfl, by decide, row_step (by decide) hb1 ?_, hw.setCell (Nat.le_refl _) _⟩, by decide⟩
        simp [be8]
      · have e1 := Lib.cell_of_heap hb1 3
        have e2 := dj 3 (by decide)
        go_wp2
        refine ⟨⟨4, rfl, by decide, row_step (by decide) hb1 ?_, hw.setCell (Nat.le_refl _) _⟩, by decide⟩
        simp [be8]
      · have e1 := Lib.cell_of_heap hb1 4
        have e2 := dj 4 (by decide)
        go_wp2
        refine ⟨⟨5, rfl, by decide, row_step (by decide) hb1 ?_, hw.setCell (Nat.le_refl _) _⟩, by decide⟩
        simp [be8]
      · have e1 := Lib.cell_of_heap hb1 5
        have e2 := dj 5 (by decide)
        go_wp2
        refine ⟨⟨6, rfl, by decide, row_step (by decide) hb1 ?_, hw.setCell (Nat.le_refl _) _⟩, by decide⟩
        simp [be8]
      · have e1 := Lib.cell_of_heap hb1 6
        have e2 := dj 6 (by decide)
        go_wp2
        refine ⟨⟨7, rfl, by decide, row_step (by decide) hb1 ?_, hw.setCell (Nat.le_refl _) _⟩, by decide⟩
        simp [be8]
      · have e1 := Lib.cell_of_heap hb1 7
        have e2 := dj 7 (by decide)
        go_wp2
        refine ⟨⟨8, rfl, by decide, row_step (by decide) hb1 ?_, hw.setCell (Nat.le_refl _) _⟩, by decide⟩
        simp [be8]
    · have hk : k = 8 := by omega
      subst hk
      have hrow : row b 8 = Lib.byteCells (be8 b) := rfl
      have hB := fun (hW : w1.heap.size < wr.heap.size) => Bd.based w1.heap.size 0 8 (be8 b) wr (show 8 ≤ 1000 by decide) hW (fun j hj => by
        rw [Lib.cell_of_heap hb1, hrow]
        have hj8 : j < 8 := hj
        have hk' : j = 0 ∨ j = 1 ∨ j = 2 ∨ j = 3 ∨ j = 4 ∨ j = 5 ∨ j = 6 ∨ j = 7 := by omega
        rcases hk' with rfl | rfl | rfl | rfl | rfl | rfl | rfl | rfl <;> rfl)
      have hl : w1.heap.size < wr.heap.size := by
        rcases Nat.lt_or_ge w1.heap.size wr.heap.size with h | h
        · exact h
        · rw [Array.getElem?_eq_none h] at hb1; cases hb1
      have hB := hB hl
      have hadd := str_add 102 (Bd.hex (be8 b))
      have hlen : (Bd.hex (be8 b)).length = 16 := Bd.hex_length (be8 b)
      obtain ⟨hx, qx⟩ : ∃ hx, hx = Bd.hex (be8 b) := ⟨_, rfl⟩
      rw [← qx] at hB hadd hlen
      have HX := Lib.hid qx
      clear qx
      go_wp2_with (go_at_call 21; refine hB.mono ?_)
      rintro e w2 ⟨rfl, h2⟩
      have hb := hw1.trans ((hw.mono (Nat.le_of_lt hlt)).trans (h2.mono (by omega)))
      go_wp2
      go_ret2
      refine ⟨?_, hb⟩
      rw [← HX.out]
      rfl
end Vl
end Go.Proofs.YtdmpneafeadbbaaGreatDoor
set_option maxRecDepth 100000
set_option linter.unusedVariables false
namespace Go.Proofs.YtdmpneafeadbbaaGreatDoor
open Go Go.Abs Go.RowKit
namespace L
def nan (b : Nat) : Bool := decide (b % 9223372036854775808 / 4503599627370496 = 2047) && decide (b % 4503599627370496 ≠ 0)
def canon (b : Nat) : Nat := if nan b = true then 9221120237041090560 else b
theorem land_lo (b : Nat) : Nat.land b 4503599627370495 = b % 4503599627370496 := Nat.and_two_pow_sub_one_eq_mod b 52
theorem land_e (b : Nat) : Nat.land b 2047 = b % 2048 := Nat.and_two_pow_sub_one_eq_mod b 11
theorem e_eq (b : Nat) : b % 9223372036854775808 / 4503599627370496 = b / 4503599627370496 % 2048 := by omega
theorem wrap_i64 {k : Nat} (h : k < 9223372036854775808) : wrapQ .i64 (Int.ofNat k) = Int.ofNat k := by
  show iff (Nat.ble k 9223372036854775807) (Int.ofNat k) _ = _
  rw [ble_true (by omega)]; rfl
theorem wrap_u64 {k : Nat} (h : k < 18446744073709551616) : wrapQ .u64 (Int.ofNat k) = Int.ofNat k := by
  show iff (Nat.ble k 18446744073709551615) (Int.ofNat k) _ = _
  rw [ble_true (by omega)]; rfl
theorem toMod_i64 {k : Nat} (h : k < 18446744073709551616) : toMod .i64 (Int.ofNat k) = k := by
  show iff (Nat.blt k 18446744073709551616) k _ = _
  rw [(blt_iff _ _).2 h]; rfl
theorem toMod_u64 {k : Nat} (h : k < 18446744073709551616) : toMod .u64 (Int.ofNat k) = k := by
  show iff (Nat.blt k 18446744073709551616) k _ = _
  rw [(blt_iff _ _).2 h]; rfl
theorem ofMod_i64 {k : Nat} (h : k < 9223372036854775808) : ofMod .i64 k = Int.ofNat k := by
  show iff (Nat.ble k 9223372036854775807) (Int.ofNat k) _ = _
  rw [ble_true (by omega)]; rfl
theorem ofMod_u64 {k : Nat} (h : k < 18446744073709551616) : ofMod .u64 k = Int.ofNat k := by
  show iff (Nat.ble k 18446744073709551615) (Int.ofNat k) _ = _
  rw [ble_true (by omega)]; rfl
theorem fdiv_nat (a b : Nat) : Int.fdiv (Int.ofNat a) (Int.ofNat b) = Int.ofNat (a / b) := by
  show Int.fdiv (a : Int) (b : Int) = ((a / b : Nat) : Int)
  rw [Int.fdiv_eq_ediv_of_nonneg _ (Int.natCast_nonneg b)]; rfl
theorem r104_nan (n : Nat) (b : Nat) (hb : b < 18446744073709551616) : ∃ c : Int, r104 n (Int.ofNat b, PUnit.unit) = some (c, PUnit.unit) ∧ eqQ c (Int.ofNat 5) = nan b := by
  have h1 : Int.fdiv (Int.ofNat b) (Int.ofNat 4503599627370496) = Int.ofNat (b / 4503599627370496) := fdiv_nat _ _
  have hlt : b / 4503599627370496 < 4096 := by omega
  show ∃ c : Int, r104c n (Int.ofNat b) = some (c, PUnit.unit) ∧ _
  unfold r104c
  rw [h1, wrap_i64 (by omega), toMod_i64 (by omega), land_e, ofMod_i64 (by omega), toMod_u64 hb, land_lo, ofMod_u64 (by omega), eqQ_nat, eqQ_nat]
  unfold nan
  rw [e_eq]
  generalize b / 4503599627370496 % 2048 = e
  generalize b % 4503599627370496 = f
  by_cases he : e = 2047
  · subst he
    by_cases hf : f = 0
    · subst hf; exact ⟨_, rfl, rfl⟩
    · refine ⟨Int.ofNat 5, ?_, ?_⟩
      · rw [decide_eq_false hf]; rfl
      · rw [decide_eq_true hf]; rfl
  · rw [decide_eq_false he]
    show ∃ c : Int, r104_j3 n (Int.ofNat e) (Int.ofNat f) false = _ ∧ _
    unfold r104_j3
    rw [eqQ_nat, eqQ_nat, eqQ_nat, decide_eq_false he]
    by_cases h0 : e = 0
    · rw [decide_eq_true h0]
      by_cases hf : f = 0
      · rw [decide_eq_true hf]; exact ⟨_, rfl, rfl⟩
      · rw [decide_eq_false hf]; exact ⟨_, rfl, rfl⟩
    · rw [decide_eq_false h0]; exact ⟨_, rfl, rfl⟩
theorem r70_nan (n : Nat) (b : Nat) (hb : b < 18446744073709551616) : ∃ c : Int, r70 n (Int.ofNat b, PUnit.unit) = some (c, PUnit.unit) ∧ eqQ c (Int.ofNat 5) = nan b := by
  have h1 : Int.tdiv (Int.tmod (Int.ofNat b) (Int.ofNat 9223372036854775808)) (Int.ofNat 4503599627370496) = Int.ofNat (b % 9223372036854775808 / 4503599627370496) := rfl
  have h2 : Int.tmod (Int.ofNat b) (Int.ofNat 4503599627370496) = Int.ofNat (b % 4503599627370496) := rfl
  have hlt : b % 9223372036854775808 / 4503599627370496 < 2048 := by omega
  show ∃ c : Int, r70c n (Int.ofNat b) = some (c, PUnit.unit) ∧ _
  unfold r70c
  rw [h1, h2, wrap_u64 (by omega), wrap_i64 (by omega), eqQ_nat, eqQ_nat]
  unfold nan
  generalize b % 9223372036854775808 / 4503599627370496 = e at hlt
  generalize b % 4503599627370496 = f
  by_cases h0 : e = 0
  · subst h0
    rw [decide_eq_true rfl]
    show ∃ c : Int, r70_j3 n (Int.ofNat 0) (Int.ofNat f) (decide (f = 0)) = _ ∧ _
    unfold r70_j3
    by_cases hf : f = 0
    · rw [decide_eq_true hf]; exact ⟨_, rfl, rfl⟩
    · rw [decide_eq_false hf]; exact ⟨_, rfl, rfl⟩
  · rw [decide_eq_false h0]
    show ∃ c : Int, r70_j3 n (Int.ofNat e) (Int.ofNat f) false = _ ∧ _
    unfold r70_j3
    rw [eqQ_nat, eqQ_nat, leQ_nat, decide_eq_false h0]
    by_cases he : e = 2047
    · subst he
      rw [decide_eq_true (Nat.le_refl 2047)]
      by_cases hf : f = 0
      · subst hf; exact ⟨_, rfl, rfl⟩
      · rw [decide_eq_false hf]; refine ⟨_, rfl, ?_⟩; simp [hf]; rfl
    · rw [decide_eq_false (show ¬ 2047 ≤ e by omega), decide_eq_false he]; exact ⟨_, rfl, rfl⟩
theorem r71_eq (n b : Nat) (hb : b < 18446744073709551616) : r71 n (Int.ofNat b, PUnit.unit) = some (Int.ofNat (canon b), PUnit.unit) := by
  obtain ⟨c, h1, h2⟩ := r104_nan n b hb
  show andThen (r104 n (Int.ofNat b, PUnit.unit)) _ = _
  rw [h1]
  show iff (eqQ c (Int.ofNat 5)) _ _ = _
  rw [h2]
  unfold canon
  cases nan b <;> rfl
theorem r32_eq (n b : Nat) (hb : b < 18446744073709551616) : r32 n (Int.ofNat b, PUnit.unit) = some (Int.ofNat (canon b), PUnit.unit) := by
  obtain ⟨c, h1, h2⟩ := r70_nan n b hb
  show andThen (r70 n (Int.ofNat b, PUnit.unit)) _ = _
  rw [h1]
  show iff (eqQ c (Int.ofNat 5)) _ _ = _
  rw [h2]
  unfold canon
  cases nan b <;> rfl
theorem r33_eq (n : Nat) (l : List UInt8) (hl : l.length < n) (hl2 : l.length ≤ 1000000) : r33 n (l, PUnit.unit) = some (Tx.printB l, PUnit.unit) := by
  have h := iterF_seek (X := (List UInt8 × Int × Unit) × Unit × Unit) (R := Unit × Unit × Unit ⊕ Bool × Unit)
    (body := fun x => r33_l2 n (Prod.fst (Prod.fst x)) (Prod.fst (Prod.snd (Prod.fst x)))) l (fun k => ((l, Int.ofNat k, PUnit.unit), PUnit.unit, PUnit.unit)) (fun c => Tx.pr c.toNat) (fun _ => .inr (Bool.false, PUnit.unit)) (.inl (PUnit.unit, PUnit.unit, PUnit.unit))
    (fun k a hk => by
      have hlt := (List.getElem?_eq_some_iff.1 hk).1
      show r33_l2 n l (Int.ofNat k) = _
      unfold r33_l2
      rw [lenQ_eq, iff_nf (le_false hlt), inRange_nat hlt, andThen_st, nthQ_some hk, andThen_st, leQ_nat, Tx.pr]
      by_cases h1 : 32 ≤ a.toNat
      · rw [decide_eq_true h1, decide_eq_false (show ¬ a.toNat < 32 by omega)]
        show andThen (andThen (some k) fun j5 => andThen (nthQ j5 l) _) _ = _
        rw [andThen_st, nthQ_some hk, andThen_st, leQ_nat, andThen_st, sumK_inl]
        show r33_j5 n l (Int.ofNat k) (!decide (a.toNat ≤ 126)) = _
        unfold r33_j5
        rw [wrap_succ (by omega)]
        by_cases h2 : a.toNat ≤ 126
        · rw [decide_eq_true h2, decide_eq_false (show ¬ 126 < a.toNat by omega)]; rfl
        · rw [decide_eq_false h2, decide_eq_true (show 126 < a.toNat by omega)]; rfl
      · rw [decide_eq_false h1, decide_eq_true (show a.toNat < 32 by omega)]; rfl)
    (by
      show r33_l2 n l (Int.ofNat l.length) = _
      unfold r33_l2
      rw [lenQ_eq, iff_nt (le_true (Nat.le_refl _))]) n hl
  show andThen _ _ = _
  rw [h]
  have key : ∀ (l : List UInt8) k, (seek (fun c : UInt8 => Tx.pr c.toNat) (fun _ => Sum.inr (Bool.false, PUnit.unit)) (Sum.inl (PUnit.unit, PUnit.unit, PUnit.unit)) l k : Unit × Unit × Unit ⊕ Bool × Unit) = if Tx.printB l = true then .inl (PUnit.unit, PUnit.unit, PUnit.unit) else .inr (Bool.false, PUnit.unit) := by
    intro l
    induction l with
    | nil => intro k; rfl
    | cons c l ih =>
      intro k
      rw [seek, ih]
      unfold Tx.printB
      rw [List.all_cons]
      cases Tx.pr c.toNat <;> rfl
  rw [key]
  cases Tx.printB l <;> rfl
def okv (k m : Int) (b : Nat) (l : List UInt8) : Bool :=
  if k = 1 then decide (b = 0) && decide (l = []) else if k = 2 then decide (m = 0) && decide (l = []) && decide (canon b = b) else if k = 3 then decide (m = 0) && decide (b = 0) && decide (l.length ≤ 30) && Tx.printB l else false
theorem same_nil (l : List UInt8) : sameBytes l [] = decide (l = []) := by cases l <;> rfl
theorem r11_eq (n : Nat) (k m : Int) (b : Nat) (l : List UInt8) (hb : b < 18446744073709551616) (hl : l.length < n) (hl2 : l.length ≤ 1000000) : r11 n ((k, m, Int.ofNat b, l, PUnit.unit), PUnit.unit) = some (if okv k m b l = true then Int.ofNat 0 else Int.ofNat 8, PUnit.unit) := by
  have q1 : eqQ k (Int.ofNat 1) = decide (k = 1) := eqQ_dec _ _
  have q2 : eqQ k (Int.ofNat 2) = decide (k = 2) := eqQ_dec _ _
  have q3 : eqQ k (Int.ofNat 3) = decide (k = 3) := eqQ_dec _ _
  have qm : eqQ m (Int.ofNat 0) = decide (m = 0) := eqQ_dec _ _
  have qb : eqQ (Int.ofNat b) (Int.ofNat 0) = decide (b = 0) := eqQ_nat _ _
  have ql : sameBytes l [] = decide (l = []) := same_nil l
  have qz : leQ (Int.ofNat (lenQ l)) (Int.ofNat 30) = decide (l.length ≤ 30) := by rw [lenQ_eq, leQ_nat]
  show r11c n (k, m, Int.ofNat b, l, PUnit.unit) = _
  unfold r11c okv
  show andThen (iff (eqQ k (Int.ofNat 1)) (andThen (iff (eqQ (Int.ofNat b) (Int.ofNat 0)) (some (Sum.inl ((sameBytes l [], PUnit.unit), PUnit.unit, PUnit.unit))) _) _) (iff (eqQ k (Int.ofNat 2)) _ (iff (eqQ k (Int.ofNat 3)) _ _))) _ = _
  rw [q1, q2, q3]
  by_cases h1 : k = 1
  · rw [if_pos h1, decide_eq_true h1, qb, ql]
    by_cases hb0 : b = 0
    · by_cases hn : l = []
      · rw [decide_eq_true hb0, decide_eq_true hn]; rfl
      · rw [decide_eq_true hb0, decide_eq_false hn]; rfl
    · rw [decide_eq_false hb0]; rfl
  · rw [if_neg h1, decide_eq_false h1]
    by_cases h2 : k = 2
    · rw [if_pos h2, decide_eq_true h2]
      show andThen (andThen (iff (eqQ m (Int.ofNat 0)) (iff (sameBytes l []) (andThen (r32 n (Int.ofNat b, PUnit.unit)) (fun (y : ElL [t22]) => some (Sum.inl ((eqQ y.1 (Int.ofNat b), PUnit.unit), PUnit.unit, PUnit.unit)))) _) _) (sumK fun (x : (Bool × Unit) × Unit × Unit) => r11_j7 n x.1.1)) (sumK fun (_ : Unit × Unit × Unit) => r11_j11 n) = _
      rw [qm, ql, r32_eq n b hb]
      show andThen (andThen (iff _ (iff _ (some (Sum.inl ((eqQ (Int.ofNat (canon b)) (Int.ofNat b), PUnit.unit), PUnit.unit, PUnit.unit))) _) _) _) _ = _
      rw [eqQ_nat]
      by_cases hm : m = 0
      · by_cases hn : l = []
        · rw [decide_eq_true hm, decide_eq_true hn]
          by_cases hc : canon b = b
          · rw [decide_eq_true hc]; rfl
          · rw [decide_eq_false hc]; rfl
        · rw [decide_eq_true hm, decide_eq_false hn]; rfl
      · rw [decide_eq_false hm]; rfl
    · rw [if_neg h2, decide_eq_false h2]
      by_cases h3 : k = 3
      · rw [if_pos h3, decide_eq_true h3]
        show andThen (andThen (iff (eqQ m (Int.ofNat 0)) (iff (eqQ (Int.ofNat b) (Int.ofNat 0)) (iff (leQ (Int.ofNat (lenQ l)) (Int.ofNat 30)) (andThen (r33 n (l, PUnit.unit)) (fun (y : ElL [t4]) => some (Sum.inl ((y.1, PUnit.unit), PUnit.unit, PUnit.unit)))) _) _) _) (sumK fun (x : (Bool × Unit) × Unit × Unit) => r11_j10 n x.1.1)) (sumK fun (_ : Unit × Unit × Unit) => r11_j11 n) = _
        rw [qm, qb, qz, r33_eq n l hl hl2]
        by_cases hm : m = 0
        · by_cases hb0 : b = 0
          · by_cases hle : l.length ≤ 30
            · rw [decide_eq_true hm, decide_eq_true hb0, decide_eq_true hle]
              cases Tx.printB l <;> rfl
            · rw [decide_eq_true hm, decide_eq_true hb0, decide_eq_false hle]; rfl
          · rw [decide_eq_true hm, decide_eq_false hb0]; rfl
        · rw [decide_eq_false hm]; rfl
      · rw [if_neg h3, decide_eq_false h3]; rfl
def mk (k m : Int) (b : Nat) (l : List UInt8) : El t24 := ((k : Int), (m : Int), Int.ofNat b, l, PUnit.unit)
theorem j9_same (n : Nat) (k m : Int) (b : Nat) (l : List UInt8) (h0 : k ≠ 0) : r12_j9 n (mk k m b l) (mk k m b l) = some (Int.ofNat 0, PUnit.unit) := by
  have h : eqE t24 (mk k m b l) (mk k m b l) = true := eqE_self rfl _
  show andThen (iff (!eqE t24 (mk k m b l) (mk k m b l)) _ _) _ = _
  rw [h]
  show andThen (some (Sum.inl ((eqQ k (Int.ofNat 0), PUnit.unit), PUnit.unit, PUnit.unit))) _ = _
  rw [andThen_st, sumK_inl, eqQ_dec, decide_eq_false (show ¬ k = Int.ofNat 0 from h0)]; rfl
theorem j9_zero (n : Nat) (k m : Int) (b : Nat) (l : List UInt8) (h0 : k = 0) (y : El t24) : r12_j9 n (mk k m b l) y = some (Int.ofNat 8, PUnit.unit) := by
  show andThen (iff (!eqE t24 (mk k m b l) y) _ _) _ = _
  cases eqE t24 (mk k m b l) y with
  | false => rfl
  | true =>
    show andThen (some (Sum.inl ((eqQ k (Int.ofNat 0), PUnit.unit), PUnit.unit, PUnit.unit))) _ = _
    rw [andThen_st, sumK_inl, eqQ_dec, decide_eq_true (show k = Int.ofNat 0 from h0)]; rfl
theorem j9_diff (n : Nat) (x y : El t24) (h : x ≠ y) : r12_j9 n x y = some (Int.ofNat 8, PUnit.unit) := by
  have h : eqE t24 x y = false := by
    cases he : eqE t24 x y with
    | false => rfl
    | true => exact absurd ((eqE_iff (t := t24) rfl x y).1 he) h
  show andThen (iff (!eqE t24 x y) _ _) _ = _
  rw [h]; rfl
theorem mk_inj {k m k' m' : Int} {b b' : Nat} {l l' : List UInt8} (h : mk k m b l = mk k' m' b' l') : k = k' ∧ m = m' ∧ b = b' ∧ l = l' :=
  ⟨congrArg (fun x : El t24 => x.1) h, congrArg (fun x : El t24 => x.2.1) h, Int.ofNat_inj.1 (congrArg (fun x : El t24 => x.2.2.1) h), congrArg (fun x : El t24 => x.2.2.2.1) h⟩
theorem r12_eq (n : Nat) (k m : Int) (b : Nat) (l : List UInt8) (hb : b < 18446744073709551616) (hl2 : l.length ≤ 1000000) : r12 n (mk k m b l, PUnit.unit) = some (if okv k m b l = true then Int.ofNat 0 else Int.ofNat 8, PUnit.unit) := by
  show r12c n (k, m, Int.ofNat b, l, PUnit.unit) = _
  unfold r12c okv
  simp only [eqQ_dec]
  by_cases h1 : k = 1
  · subst h1
    rw [if_pos rfl]
    show r12_j9 n (mk 1 m b l) (mk 1 m 0 []) = _
    by_cases hb0 : b = 0
    · by_cases hn : l = []
      · subst hb0 hn
        rw [j9_same n _ _ _ _ (show (1 : Int) ≠ 0 by decide)]; rfl
      · rw [j9_diff n _ _ (fun h => hn (mk_inj h).2.2.2), decide_eq_false hn, Bool.and_false]; rfl
    · rw [j9_diff n _ _ (fun h => hb0 (mk_inj h).2.2.1), decide_eq_false hb0]; rfl
  · rw [if_neg h1, decide_eq_false (show ¬ k = Int.ofNat 1 from h1)]
    by_cases h2 : k = 2
    · subst h2
      rw [if_pos rfl]
      have h35 : r35 n (Int.ofNat b, PUnit.unit) = some (mk 2 0 (canon b) [], PUnit.unit) := by
        show andThen (r71 n (Int.ofNat b, PUnit.unit)) _ = _
        rw [r71_eq n b hb]; rfl
      show andThen (andThen (r35 n (Int.ofNat b, PUnit.unit)) _) _ = _
      rw [h35]
      show r12_j9 n (mk 2 m b l) (mk 2 0 (canon b) []) = _
      by_cases hm : m = 0
      · by_cases hn : l = []
        · by_cases hc : canon b = b
          · subst hm hn
            rw [hc, j9_same n _ _ _ _ (show (2 : Int) ≠ 0 by decide), decide_eq_true (show b = b from rfl)]; rfl
          · rw [j9_diff n _ _ (fun h => hc (mk_inj h).2.2.1.symm), decide_eq_false hc, Bool.and_false]; rfl
        · rw [j9_diff n _ _ (fun h => hn (mk_inj h).2.2.2), decide_eq_false hn, Bool.and_false]; rfl
      · rw [j9_diff n _ _ (fun h => hm (mk_inj h).2.1), decide_eq_false hm]; rfl
    · rw [if_neg h2, decide_eq_false (show ¬ k = Int.ofNat 2 from h2)]
      by_cases h3 : k = 3
      · subst h3
        rw [if_pos rfl]
        have h36 : r36 n (l, PUnit.unit) = some (r36l l) := iff_t (ble_true (by rw [lenQ_eq]; omega))
        show andThen (andThen (r36 n (l, PUnit.unit)) _) _ = _
        rw [h36]
        show r12_j9 n (mk 3 m b l) (r36l l).1 = _
        by_cases hle : l.length ≤ 30
        · cases hp : Tx.printB l with
          | true =>
            have hr : (r36l l).1 = mk 3 0 0 l := by
              unfold r36l
              rw [iff_f (by rw [lenQ_eq]; exact Bool.eq_false_iff.2 (fun h => by have := (blt_iff _ _).1 h; omega)), iff_t hp]; rfl
            rw [hr]
            by_cases hm : m = 0
            · by_cases hb0 : b = 0
              · subst hm hb0
                rw [j9_same n _ _ _ _ (show (3 : Int) ≠ 0 by decide), decide_eq_true hle]; rfl
              · rw [j9_diff n _ _ (fun h => hb0 (mk_inj h).2.2.1), decide_eq_false hb0, Bool.and_false]; rfl
            · rw [j9_diff n _ _ (fun h => hm (mk_inj h).2.1), decide_eq_false hm]; rfl
          | false =>
            have hr : (r36l l).1 = mk 0 0 0 [] := by
              unfold r36l
              rw [iff_f (by rw [lenQ_eq]; exact Bool.eq_false_iff.2 (fun h => by have := (blt_iff _ _).1 h; omega)), iff_f hp]; rfl
            rw [hr, j9_diff n _ _ (fun h => by have := (mk_inj h).1; cases this), Bool.and_false]; rfl
        · have hr : (r36l l).1 = mk 0 0 0 [] := by
            unfold r36l
            rw [iff_t (by rw [lenQ_eq]; exact (blt_iff _ _).2 (by omega))]; rfl
          rw [hr, j9_diff n _ _ (fun h => by have := (mk_inj h).1; cases this), decide_eq_false hle, Bool.and_false]; rfl
      · rw [if_neg h3, decide_eq_false (show ¬ k = Int.ofNat 3 from h3)]
        show r12_j9 n (mk k m b l) (mk 0 0 0 []) = _
        by_cases h0 : k = 0
        · rw [j9_zero n _ _ _ _ h0]; rfl
        · rw [j9_diff n _ _ (fun h => h0 (mk_inj h).1)]; rfl
theorem check (k m : Int) (b : Nat) (l : List UInt8) (hb : b < 18446744073709551616) (hl2 : l.length ≤ 1000000) (w : World) :
    Calls Tryz.prog 12 #[.agg #[.int .u8 k, .int .i64 m, .int .u64 b, .string ⟨⟨l⟩⟩]] w fun e w' => e = .returned (.int .i64 (if okv k m b l = true then 0 else 8)) ∧ Below w.heap.size w w' := by
  have h := calls_of_con (r12_ok 0) rfl rfl rfl (r12_eq 0 k m b l hb hl2) w
  refine h.mono fun e w' ⟨h1, h2⟩ => ⟨?_, h2⟩
  rw [h1]
  by_cases ho : okv k m b l = true
  · rw [if_pos ho, if_pos ho]; rfl
  · rw [if_neg ho, if_neg ho]; rfl
end L
end Go.Proofs.YtdmpneafeadbbaaGreatDoor
set_option maxRecDepth 100000
set_option linter.unusedVariables false
namespace Go.Proofs.YtdmpneafeadbbaaGreatDoor
open Go Go.Abs Go.RowKit
namespace Rp
open Rb
noncomputable def xs : List Value := [str [92, 92], str [92], str [92, 115], str [32]]
noncomputable def tab : List Value := (List.range 256).map fun b => .int .u8 (if b = 92 then 0 else if b = 115 then 1 else 2)
noncomputable def gen : List Value := [str [], .int .i64 0, str [], .pointer none, .slice (some ⟨3, 0, none⟩) 2 2, .int .i64 2] ++ tab
noncomputable def sF : ASt :=
  ⟨(((((((Tr.leaf.set 0 (.cells [.int .u32 0, .int .i32 1, .int .u32 0, .iface 184 (.pointer (some ⟨2, 0, none⟩)), .slice none 0 0] none 0 false false)).set 1 (.cells xs (some 1) 1 false false)).set 2 (.cells gen none 2 false false)).set 3 (.cells [.pointer (some ⟨4, 0, none⟩), .pointer none] none 3 false false)).set 4
    (.cells [str [], .int .i64 0, str [], .pointer none, .slice (some ⟨7, 0, none⟩) 2 2] none 4 false false)).set 5 (.cells [str [92], .int .i64 4, str [], .pointer none, .slice none 0 0] none 5 false false)).set 6 (.cells [str [32], .int .i64 2, str [], .pointer none, .slice none 0 0] none 6 false false)).set 7
    (.cells [.pointer (some ⟨5, 0, none⟩), .pointer (some ⟨6, 0, none⟩)] none 7 false false), 8, 0, 2⟩
set_option maxHeartbeats 4000000 in
theorem run : callN Tb.T 300 12 62 [.pointer (some ⟨0, 0, none⟩)] (st0 xs) = some (.tuple ⟨[]⟩, sF) := by kernel_rfl
theorem o0 : sF.obj 0 = some (.cells [.int .u32 0, .int .i32 1, .int .u32 0, .iface 184 (.pointer (some ⟨2, 0, none⟩)), .slice none 0 0] none 0 false false) := by kernel_rfl
theorem o2 : sF.obj 2 = some (.cells gen none 2 false false) := by kernel_rfl
theorem o3 : sF.obj 3 = some (.cells [.pointer (some ⟨4, 0, none⟩), .pointer none] none 3 false false) := by kernel_rfl
theorem o4 : sF.obj 4 = some (.cells [str [], .int .i64 0, str [], .pointer none, .slice (some ⟨7, 0, none⟩) 2 2] none 4 false false) := by kernel_rfl
theorem o5 : sF.obj 5 = some (.cells [str [92], .int .i64 4, str [], .pointer none, .slice none 0 0] none 5 false false) := by kernel_rfl
theorem o6 : sF.obj 6 = some (.cells [str [32], .int .i64 2, str [], .pointer none, .slice none 0 0] none 6 false false) := by kernel_rfl
theorem o7 : sF.obj 7 = some (.cells [.pointer (some ⟨5, 0, none⟩), .pointer (some ⟨6, 0, none⟩)] none 7 false false) := by kernel_rfl
end Rp
end Go.Proofs.YtdmpneafeadbbaaGreatDoor
set_option maxRecDepth 100000
set_option linter.unusedVariables false
namespace Go.Proofs.YtdmpneafeadbbaaGreatDoor
open Go Go.Abs Go.RowKit
namespace Rp
open Rb
structure Node (w : World) (a : Addr) (val : List UInt8) (prio : Int) (tab : Value) : Prop where
  v : w.cell? ⟨a.block, a.off, none⟩ = some (str val)
  p : w.cell? ⟨a.block, a.off + 1, none⟩ = some (.int .i64 prio)
  f : w.cell? ⟨a.block, a.off + 2, none⟩ = some (str [])
  n : w.cell? ⟨a.block, a.off + 3, none⟩ = some (.pointer none)
  t : w.cell? ⟨a.block, a.off + 4, none⟩ = some tab
structure Spots where
  (g t a u b c : Addr)
  (ct cu : Nat)
structure Body (w : World) (S : Spots) : Prop where
  root : Node w S.g [] 0 (.slice (some ⟨S.t.block, S.t.off, none⟩) 2 S.ct)
  size : w.cell? ⟨S.g.block, S.g.off + 5, none⟩ = some (.int .i64 2)
  map : ∀ b, b < 256 → w.cell? ⟨S.g.block, S.g.off + 6 + b, none⟩ = some (.int .u8 (if b = 92 then 0 else if b = 115 then 1 else 2))
  t0 : w.cell? ⟨S.t.block, S.t.off, none⟩ = some (.pointer (some ⟨S.a.block, S.a.off, none⟩))
  t1 : w.cell? ⟨S.t.block, S.t.off + 1, none⟩ = some (.pointer none)
  a : Node w S.a [] 0 (.slice (some ⟨S.u.block, S.u.off, none⟩) 2 S.cu)
  u0 : w.cell? ⟨S.u.block, S.u.off, none⟩ = some (.pointer (some ⟨S.b.block, S.b.off, none⟩))
  u1 : w.cell? ⟨S.u.block, S.u.off + 1, none⟩ = some (.pointer (some ⟨S.c.block, S.c.off, none⟩))
  b : Node w S.b [92] 4 (.slice none 0 0)
  c : Node w S.c [32] 2 (.slice none 0 0)
def Spots.all (S : Spots) (f : Nat → Prop) : Prop := f S.g.block ∧ f S.t.block ∧ f S.a.block ∧ f S.u.block ∧ f S.b.block ∧ f S.c.block
theorem Node.keep {w w' : World} {a : Addr} {val : List UInt8} {prio : Int} {tab : Value} (h : Node w a val prio tab) (hk : ∀ o, w'.cell? ⟨a.block, o, none⟩ = w.cell? ⟨a.block, o, none⟩) : Node w' a val prio tab :=
  ⟨(hk _).trans h.v, (hk _).trans h.p, (hk _).trans h.f, (hk _).trans h.n, (hk _).trans h.t⟩
theorem Body.keep {w w' : World} {S : Spots} (h : Body w S) (hk : S.all fun b => ∀ o, w'.cell? ⟨b, o, none⟩ = w.cell? ⟨b, o, none⟩) : Body w' S :=
  ⟨h.root.keep hk.1, (hk.1 _).trans h.size, fun b hb => (hk.1 _).trans (h.map b hb), (hk.2.1 _).trans h.t0, (hk.2.1 _).trans h.t1, h.a.keep hk.2.2.1, (hk.2.2.2.1 _).trans h.u0, (hk.2.2.2.1 _).trans h.u1, h.b.keep hk.2.2.2.2.1, h.c.keep hk.2.2.2.2.2⟩
theorem node_of {σ σ' : ASt} {π : PMap} {δ D : Nat → Prop} {H : Nat → Option AObj} {w : World} (hp : Pre σ σ' π δ D H w) {k : Nat} {c : List Value} {a : Addr} (h : σ.row k = some c) (ha : AR π D ⟨k, 0, none⟩ a) {val : List UInt8} {prio : Int} {tab : Value}
    (e0 : c[0]? = some (str val)) (e1 : c[1]? = some (.int .i64 prio)) (e2 : c[2]? = some (str [])) (e3 : c[3]? = some (.pointer none)) (e4 : c[4]? = some tab) : ∃ tab', VR π D tab tab' ∧ Node w a val prio tab' := by
  obtain ⟨_, g0, h0⟩ := hp.cell h ha (j := 0) (by rw [Nat.zero_add]; exact e0)
  obtain ⟨_, g1, h1⟩ := hp.cell h ha (j := 1) (by rw [Nat.zero_add]; exact e1)
  obtain ⟨_, g2, h2⟩ := hp.cell h ha (j := 2) (by rw [Nat.zero_add]; exact e2)
  obtain ⟨_, g3, h3⟩ := hp.cell h ha (j := 3) (by rw [Nat.zero_add]; exact e3)
  obtain ⟨t4, g4, h4⟩ := hp.cell h ha (j := 4) (by rw [Nat.zero_add]; exact e4)
  rw [h0.string_inv] at g0
  rw [h1.int_inv] at g1
  rw [h2.string_inv] at g2
  rw [h3.ptr_none] at g3
  exact ⟨t4, h4, g0, g1, g2, g3, g4⟩
theorem tab_at (b : Nat) (h : b < 256) : gen[6 + b]? = some (.int .u8 (if b = 92 then 0 else if b = 115 then 1 else 2)) := by
  unfold gen
  rw [List.getElem?_append_right (by simp)]
  show tab[6 + b - 6]? = _
  rw [Nat.add_sub_cancel_left]
  unfold tab
  rw [List.getElem?_map, List.getElem?_range h]; rfl
theorem at_own {a : Addr} (h : a.spot = none) : a = ⟨a.block, a.off, none⟩ := by
  obtain ⟨b, o, s⟩ := a
  simp only at h
  subst h; rfl
theorem facts {w w1 : World} {N M : Nat} (h : Made sF w N M w1) : On.Held N 0 w1 ∧ ∃ S, w1.cell? ⟨N, 3, none⟩ = some (.iface 184 (.pointer (some ⟨S.g.block, S.g.off, none⟩))) ∧ Body w1 S ∧ S.all (fun b => b ≠ N) ∧ S.all (fun b => b < w1.heap.size) := by
  obtain ⟨π, δ, D, H, hp, ha, _, _⟩ := h
  have q0 := obj_row o0
  obtain ⟨v, g0, _⟩ := hp.cell q0 ha (j := 0) rfl
  obtain ⟨v1, g1, h1⟩ := hp.cell q0 ha (j := 1) rfl
  obtain ⟨v3, g3, h3⟩ := hp.cell q0 ha (j := 3) rfl
  rw [h1.int_inv] at g1
  obtain ⟨u3, rfl, h4⟩ := h3.iface_inv
  obtain ⟨g, rfl, hg0, hG⟩ := h4.ptr_at
  have f0 := hp.free o0 ha (j := 0) (by decide)
  have f1 := hp.free o0 ha (j := 1) (by decide)
  refine ⟨⟨⟨v, g0⟩, g1, f0, f1⟩, ?_⟩
  have q2 := obj_row o2
  have q3 := obj_row o3
  have q4 := obj_row o4
  have q5 := obj_row o5
  have q6 := obj_row o6
  have q7 := obj_row o7
  obtain ⟨tab1, r1, n1⟩ := node_of hp q2 hG (val := []) (prio := 0) rfl rfl rfl rfl rfl
  obtain ⟨t, ct, rfl, _, st, hT⟩ := r1.slice_at (by decide)
  obtain ⟨_, e5, s5⟩ := hp.cell q2 hG (j := 5) (v := .int .i64 2) rfl
  rw [s5.int_inv] at e5
  obtain ⟨_, m0, k0⟩ := hp.cell q3 hT (j := 0) rfl
  obtain ⟨_, m1, k1⟩ := hp.cell q3 hT (j := 1) rfl
  obtain ⟨a, rfl, sa, hA⟩ := k0.ptr_at
  rw [k1.ptr_none] at m1
  obtain ⟨tab2, r2, n2⟩ := node_of hp q4 hA (val := []) (prio := 0) rfl rfl rfl rfl rfl
  obtain ⟨u, cu, rfl, _, su, hU⟩ := r2.slice_at (by decide)
  obtain ⟨_, m2, k2⟩ := hp.cell q7 hU (j := 0) rfl
  obtain ⟨_, m3, k3⟩ := hp.cell q7 hU (j := 1) rfl
  obtain ⟨b, rfl, sb, hB⟩ := k2.ptr_at
  obtain ⟨c, rfl, sc, hC⟩ := k3.ptr_at
  obtain ⟨tab3, r3, n3⟩ := node_of hp q5 hB (val := [92]) (prio := 4) rfl rfl rfl rfl rfl
  obtain ⟨tab4, r4, n4⟩ := node_of hp q6 hC (val := [32]) (prio := 2) rfl rfl rfl rfl rfl
  rw [r3.sl_none] at n3
  rw [r4.sl_none] at n4
  refine ⟨⟨g, t, a, u, b, c, ct, cu⟩, by rw [← at_own hg0]; exact g3, ⟨by rw [← at_own st]; exact n1, e5, fun x hx => ?_, by rw [← at_own sa]; exact m0, m1, by rw [← at_own su]; exact n2, by rw [← at_own sb]; exact m2, by rw [← at_own sc]; exact m3, n3, n4⟩,
    ⟨hp.apart o2 o0 (by decide) (by decide) hG ha, hp.apart o3 o0 (by decide) (by decide) hT ha, hp.apart o4 o0 (by decide) (by decide) hA ha, hp.apart o7 o0 (by decide) (by decide) hU ha, hp.apart o5 o0 (by decide) (by decide) hB ha, hp.apart o6 o0 (by decide) (by decide) hC ha⟩,
    ⟨hp.blk_lt q2 hG, hp.blk_lt q3 hT, hp.blk_lt q4 hA, hp.blk_lt q7 hU, hp.blk_lt q5 hB, hp.blk_lt q6 hC⟩⟩
  obtain ⟨_, y1, y2⟩ := hp.cell q2 hG (j := 6 + x) (by rw [Nat.zero_add]; exact tab_at x hx)
  rw [y2.int_inv] at y1
  show w1.cell? ⟨g.block, g.off + 6 + x, none⟩ = _
  rw [Nat.add_assoc]
  exact y1
end Rp
end Go.Proofs.YtdmpneafeadbbaaGreatDoor
set_option maxRecDepth 100000
set_option linter.unusedVariables false
namespace Go.Proofs.YtdmpneafeadbbaaGreatDoor
open Go Go.Abs Go.RowKit
namespace Lk
open Rp Rb
theorem nil (S : Spots) (w : World) (h : Body w S) :
    Calls Tryz.prog 200 #[.pointer (some ⟨S.g.block, S.g.off, none⟩), .string ⟨#[]⟩, .bool false] w fun e w' => e = .returned (.tuple #[.string ⟨#[]⟩, .int .i64 0, .bool false]) ∧ Below w.heap.size w w' := by
  have mixed := mix
  obtain ⟨⟨c0, c1, c2, c3, c4⟩, c5, c6, c7, c8, ⟨d0, d1, d2, d3, d4⟩, e0, e1, ⟨x0, x1, x2, x3, x4⟩, ⟨y0, y1, y2, y3, y4⟩⟩ := h
  obtain ⟨⟨gb, go, gs⟩, ⟨tb, t_o, ts⟩, ⟨ab, ao, a_s⟩, ⟨ub, uo, us⟩, ⟨bb, bo, bs⟩, ⟨cb, co, cs⟩, ct, cu⟩ := S
  dsimp only at *
  replace c0 : w.cell? ⟨gb, go, none⟩ = some (.string ⟨#[]⟩) := c0
  replace c2 : w.cell? ⟨gb, go + 2, none⟩ = some (.string ⟨#[]⟩) := c2
  replace d0 : w.cell? ⟨ab, ao, none⟩ = some (.string ⟨#[]⟩) := d0
  replace d2 : w.cell? ⟨ab, ao + 2, none⟩ = some (.string ⟨#[]⟩) := d2
  replace x0 : w.cell? ⟨bb, bo, none⟩ = some (.string ⟨#[92]⟩) := x0
  replace x2 : w.cell? ⟨bb, bo + 2, none⟩ = some (.string ⟨#[]⟩) := x2
  replace y0 : w.cell? ⟨cb, co, none⟩ = some (.string ⟨#[32]⟩) := y0
  replace y2 : w.cell? ⟨cb, co + 2, none⟩ = some (.string ⟨#[]⟩) := y2
  go_enter Tryz.func200, Tryz.ntmps200
  go_wp2
  refine wp_loop_rounds 1 ?_
  rw [rounds_succ]
  go_wp2
  exact bodyPost_ret (by simp [results, Tryz.results200, go_sem]) rfl ⟨rfl, Below.refl _ _⟩
theorem empty_of (t : ByteArray) (n : Nat) (h : t.size = n) : t.toList.isEmpty = decide (n = 0) := by
  subst h
  rw [← decide_eq_emptyBytes]
  apply decide_eq_decide.2
  constructor
  · intro h; rw [h]; rfl
  · intro h
    apply ByteArray.ext
    exact Array.eq_empty_of_size_eq_zero h
theorem second (u : ByteArray) (hu : 2 ≤ u.size) : (u.extract 1 u.size)[0]'(by simp; omega) = u[1]'(by omega) := by
  simp [ByteArray.getElem_extract]
set_option maxHeartbeats 4000000 in
theorem one (S : Spots) (u : ByteArray) (hu : u.size = 1) (w : World) (h : Body w S) (h0 : (u[0]'(by omega)).toNat = 92) :
    Calls Tryz.prog 200 #[.pointer (some ⟨S.g.block, S.g.off, none⟩), .string u, .bool false] w fun e w' => e = .returned (.tuple #[.string ⟨#[]⟩, .int .i64 0, .bool false]) ∧ Below w.heap.size w w' := by
  have mixed := mix
  obtain ⟨⟨c0, c1, c2, c3, c4⟩, c5, c6, c7, c8, ⟨d0, d1, d2, d3, d4⟩, e0, e1, ⟨x0, x1, x2, x3, x4⟩, ⟨y0, y1, y2, y3, y4⟩⟩ := h
  obtain ⟨⟨gb, go, gs⟩, ⟨tb, t_o, ts⟩, ⟨ab, ao, a_s⟩, ⟨ub, uo, us⟩, ⟨bb, bo, bs⟩, ⟨cb, co, cs⟩, ct, cu⟩ := S
  dsimp only at *
  replace c0 : w.cell? ⟨gb, go, none⟩ = some (.string ⟨#[]⟩) := c0
  replace c2 : w.cell? ⟨gb, go + 2, none⟩ = some (.string ⟨#[]⟩) := c2
  replace d0 : w.cell? ⟨ab, ao, none⟩ = some (.string ⟨#[]⟩) := d0
  replace d2 : w.cell? ⟨ab, ao + 2, none⟩ = some (.string ⟨#[]⟩) := d2
  replace x0 : w.cell? ⟨bb, bo, none⟩ = some (.string ⟨#[92]⟩) := x0
  replace x2 : w.cell? ⟨bb, bo + 2, none⟩ = some (.string ⟨#[]⟩) := x2
  replace y0 : w.cell? ⟨cb, co, none⟩ = some (.string ⟨#[32]⟩) := y0
  replace y2 : w.cell? ⟨cb, co + 2, none⟩ = some (.string ⟨#[]⟩) := y2
  have m92 := c6 92 (by decide)
  have hemp : u.toList.isEmpty = false := by rw [empty_of u 1 hu]; rfl
  have hlt : 0 < u.size := by omega
  have hn1 := fun w n c => Go.run_neq_slice_nil_any (P := Tryz.prog) w 212 211 (some ⟨tb, t_o, none⟩) n c 0 0 Tryz.underlying212
  have hn2 := fun w n c => Go.run_neq_slice_nil_any (P := Tryz.prog) w 212 211 (some ⟨ub, uo, none⟩) n c 0 0 Tryz.underlying212
  go_enter Tryz.func200, Tryz.ntmps200
  go_wp2
  refine wp_loop_rounds 3 ?_
  rw [rounds_succ]
  go_wp2
  go_region
  go_wp2
  rw [rounds_succ]
  go_wp2
  exact bodyPost_ret (by simp [results, Tryz.results200, go_sem]) rfl ⟨rfl, (Below.refl _ _).drew⟩
set_option maxHeartbeats 4000000 in
theorem two (S : Spots) (u : ByteArray) (hu : 2 ≤ u.size) (w : World) (h : Body w S) (h0 : (u[0]'(by omega)).toNat = 92) (h1 : (u[1]'(by omega)).toNat = 92) :
    Calls Tryz.prog 200 #[.pointer (some ⟨S.g.block, S.g.off, none⟩), .string u, .bool false] w fun e w' => e = .returned (.tuple #[.string ⟨#[92]⟩, .int .i64 2, .bool true]) ∧ Below w.heap.size w w' := by
  have mixed := mix
  obtain ⟨⟨c0, c1, c2, c3, c4⟩, c5, c6, c7, c8, ⟨d0, d1, d2, d3, d4⟩, e0, e1, ⟨x0, x1, x2, x3, x4⟩, ⟨y0, y1, y2, y3, y4⟩⟩ := h
  obtain ⟨⟨gb, go, gs⟩, ⟨tb, t_o, ts⟩, ⟨ab, ao, a_s⟩, ⟨ub, uo, us⟩, ⟨bb, bo, bs⟩, ⟨cb, co, cs⟩, ct, cu⟩ := S
  dsimp only at *
  replace c0 : w.cell? ⟨gb, go, none⟩ = some (.string ⟨#[]⟩) := c0
  replace c2 : w.cell? ⟨gb, go + 2, none⟩ = some (.string ⟨#[]⟩) := c2
  replace d0 : w.cell? ⟨ab, ao, none⟩ = some (.string ⟨#[]⟩) := d0
  replace d2 : w.cell? ⟨ab, ao + 2, none⟩ = some (.string ⟨#[]⟩) := d2
  replace x0 : w.cell? ⟨bb, bo, none⟩ = some (.string ⟨#[92]⟩) := x0
  replace x2 : w.cell? ⟨bb, bo + 2, none⟩ = some (.string ⟨#[]⟩) := x2
  replace y0 : w.cell? ⟨cb, co, none⟩ = some (.string ⟨#[32]⟩) := y0
  replace y2 : w.cell? ⟨cb, co + 2, none⟩ = some (.string ⟨#[]⟩) := y2
  have m92 := c6 92 (by decide)
  have hx0 : ((u.extract 1 u.size)[0]'(by simp; omega)).toNat = 92 := by rw [second u hu]; exact h1
  have mc := c6 92 (by decide)
  have hlt : 0 < u.size := by omega
  have hlt1 : (1 : Int) ≤ (u.size : Int) := by omega
  have hemp : u.toList.isEmpty = false := by rw [empty_of u _ rfl]; exact decide_eq_false (by omega)
  have hn1 := fun w n c => Go.run_neq_slice_nil_any (P := Tryz.prog) w 212 211 (some ⟨tb, t_o, none⟩) n c 0 0 Tryz.underlying212
  have hn2 := fun w n c => Go.run_neq_slice_nil_any (P := Tryz.prog) w 212 211 (some ⟨ub, uo, none⟩) n c 0 0 Tryz.underlying212
  have hn3 := fun w n c => Go.run_neq_slice_nil_any (P := Tryz.prog) w 212 211 none n c 0 0 Tryz.underlying212
  have hxs : (u.extract 1 u.size).size = u.size - 1 := by simp
  have hxe : (u.extract 1 u.size).toList.isEmpty = false := by rw [empty_of _ _ rfl]; exact decide_eq_false (by omega)
  have hgt : 1 < u.size := by omega
  have hgt' : 0 < u.size - 1 := by omega
  have hempx := fun v : ByteArray => Lk.empty_of v _ rfl
  go_enter Tryz.func200, Tryz.ntmps200
  go_wp2
  refine wp_loop_rounds 3 ?_
  rw [rounds_succ]
  go_wp2
  go_region
  go_wp2
  rw [rounds_succ]
  go_wp2
  go_region
  go_wp2
  rw [rounds_succ]
  go_wp2
  all_goals exact bodyPost_ret (by simp [results, Tryz.results200, go_sem]) rfl ⟨rfl, (Below.refl _ _).drew.drew⟩
set_option maxHeartbeats 4000000 in
theorem blank (S : Spots) (u : ByteArray) (hu : 2 ≤ u.size) (w : World) (h : Body w S) (h0 : (u[0]'(by omega)).toNat = 92) (h1 : (u[1]'(by omega)).toNat = 115) :
    Calls Tryz.prog 200 #[.pointer (some ⟨S.g.block, S.g.off, none⟩), .string u, .bool false] w fun e w' => e = .returned (.tuple #[.string ⟨#[32]⟩, .int .i64 2, .bool true]) ∧ Below w.heap.size w w' := by
  have mixed := mix
  obtain ⟨⟨c0, c1, c2, c3, c4⟩, c5, c6, c7, c8, ⟨d0, d1, d2, d3, d4⟩, e0, e1, ⟨x0, x1, x2, x3, x4⟩, ⟨y0, y1, y2, y3, y4⟩⟩ := h
  obtain ⟨⟨gb, go, gs⟩, ⟨tb, t_o, ts⟩, ⟨ab, ao, a_s⟩, ⟨ub, uo, us⟩, ⟨bb, bo, bs⟩, ⟨cb, co, cs⟩, ct, cu⟩ := S
  dsimp only at *
  replace c0 : w.cell? ⟨gb, go, none⟩ = some (.string ⟨#[]⟩) := c0
  replace c2 : w.cell? ⟨gb, go + 2, none⟩ = some (.string ⟨#[]⟩) := c2
  replace d0 : w.cell? ⟨ab, ao, none⟩ = some (.string ⟨#[]⟩) := d0
  replace d2 : w.cell? ⟨ab, ao + 2, none⟩ = some (.string ⟨#[]⟩) := d2
  replace x0 : w.cell? ⟨bb, bo, none⟩ = some (.string ⟨#[92]⟩) := x0
  replace x2 : w.cell? ⟨bb, bo + 2, none⟩ = some (.string ⟨#[]⟩) := x2
  replace y0 : w.cell? ⟨cb, co, none⟩ = some (.string ⟨#[32]⟩) := y0
  replace y2 : w.cell? ⟨cb, co + 2, none⟩ = some (.string ⟨#[]⟩) := y2
  have m92 := c6 92 (by decide)
  have hx0 : ((u.extract 1 u.size)[0]'(by simp; omega)).toNat = 115 := by rw [second u hu]; exact h1
  have mc := c6 115 (by decide)
  have hlt : 0 < u.size := by omega
  have hlt1 : (1 : Int) ≤ (u.size : Int) := by omega
  have hemp : u.toList.isEmpty = false := by rw [empty_of u _ rfl]; exact decide_eq_false (by omega)
  have hn1 := fun w n c => Go.run_neq_slice_nil_any (P := Tryz.prog) w 212 211 (some ⟨tb, t_o, none⟩) n c 0 0 Tryz.underlying212
  have hn2 := fun w n c => Go.run_neq_slice_nil_any (P := Tryz.prog) w 212 211 (some ⟨ub, uo, none⟩) n c 0 0 Tryz.underlying212
  have hn3 := fun w n c => Go.run_neq_slice_nil_any (P := Tryz.prog) w 212 211 none n c 0 0 Tryz.underlying212
  have hxs : (u.extract 1 u.size).size = u.size - 1 := by simp
  have hxe : (u.extract 1 u.size).toList.isEmpty = false := by rw [empty_of _ _ rfl]; exact decide_eq_false (by omega)
  have hgt : 1 < u.size := by omega
  have hgt' : 0 < u.size - 1 := by omega
  have hempx := fun v : ByteArray => Lk.empty_of v _ rfl
  go_enter Tryz.func200, Tryz.ntmps200
  go_wp2
  refine wp_loop_rounds 3 ?_
  rw [rounds_succ]
  go_wp2
  go_region
  go_wp2
  rw [rounds_succ]
  go_wp2
  go_region
  go_wp2
  rw [rounds_succ]
  go_wp2
  all_goals exact bodyPost_ret (by simp [results, Tryz.results200, go_sem]) rfl ⟨rfl, (Below.refl _ _).drew.drew⟩
set_option maxHeartbeats 4000000 in
theorem other (S : Spots) (u : ByteArray) (hu : 2 ≤ u.size) (w : World) (h : Body w S) (h0 : (u[0]'(by omega)).toNat = 92) (h1 : (u[1]'(by omega)).toNat ≠ 92 ∧ (u[1]'(by omega)).toNat ≠ 115) :
    Calls Tryz.prog 200 #[.pointer (some ⟨S.g.block, S.g.off, none⟩), .string u, .bool false] w fun e w' => e = .returned (.tuple #[.string ⟨#[]⟩, .int .i64 0, .bool false]) ∧ Below w.heap.size w w' := by
  have mixed := mix
  obtain ⟨⟨c0, c1, c2, c3, c4⟩, c5, c6, c7, c8, ⟨d0, d1, d2, d3, d4⟩, e0, e1, ⟨x0, x1, x2, x3, x4⟩, ⟨y0, y1, y2, y3, y4⟩⟩ := h
  obtain ⟨⟨gb, go, gs⟩, ⟨tb, t_o, ts⟩, ⟨ab, ao, a_s⟩, ⟨ub, uo, us⟩, ⟨bb, bo, bs⟩, ⟨cb, co, cs⟩, ct, cu⟩ := S
  dsimp only at *
  replace c0 : w.cell? ⟨gb, go, none⟩ = some (.string ⟨#[]⟩) := c0
  replace c2 : w.cell? ⟨gb, go + 2, none⟩ = some (.string ⟨#[]⟩) := c2
  replace d0 : w.cell? ⟨ab, ao, none⟩ = some (.string ⟨#[]⟩) := d0
  replace d2 : w.cell? ⟨ab, ao + 2, none⟩ = some (.string ⟨#[]⟩) := d2
  replace x0 : w.cell? ⟨bb, bo, none⟩ = some (.string ⟨#[92]⟩) := x0
  replace x2 : w.cell? ⟨bb, bo + 2, none⟩ = some (.string ⟨#[]⟩) := x2
  replace y0 : w.cell? ⟨cb, co, none⟩ = some (.string ⟨#[32]⟩) := y0
  replace y2 : w.cell? ⟨cb, co + 2, none⟩ = some (.string ⟨#[]⟩) := y2
  have m92 := c6 92 (by decide)
  have hx0 : ((u.extract 1 u.size)[0]'(by simp; omega)).toNat = (u[1]'(by omega)).toNat := by rw [second u hu]
  have hc256 : (u[1]'(by omega)).toNat < 256 := (u[1]'(by omega)).toNat_lt
  have mc := c6 _ hc256
  rw [if_neg h1.1, if_neg h1.2] at mc
  have hlt : 0 < u.size := by omega
  have hlt1 : (1 : Int) ≤ (u.size : Int) := by omega
  have hemp : u.toList.isEmpty = false := by rw [empty_of u _ rfl]; exact decide_eq_false (by omega)
  have hn1 := fun w n c => Go.run_neq_slice_nil_any (P := Tryz.prog) w 212 211 (some ⟨tb, t_o, none⟩) n c 0 0 Tryz.underlying212
  have hn2 := fun w n c => Go.run_neq_slice_nil_any (P := Tryz.prog) w 212 211 (some ⟨ub, uo, none⟩) n c 0 0 Tryz.underlying212
  have hn3 := fun w n c => Go.run_neq_slice_nil_any (P := Tryz.prog) w 212 211 none n c 0 0 Tryz.underlying212
  have hxs : (u.extract 1 u.size).size = u.size - 1 := by simp
  have hxe : (u.extract 1 u.size).toList.isEmpty = false := by rw [empty_of _ _ rfl]; exact decide_eq_false (by omega)
  have hgt : 1 < u.size := by omega
  have hgt' : 0 < u.size - 1 := by omega
  have hempx := fun v : ByteArray => Lk.empty_of v _ rfl
  go_enter Tryz.func200, Tryz.ntmps200
  go_wp2
  refine wp_loop_rounds 3 ?_
  rw [rounds_succ]
  go_wp2
  go_region
  go_wp2
  rw [rounds_succ]
  go_wp2
  go_region
  go_wp2
  exact bodyPost_ret (by simp [results, Tryz.results200, go_sem]) rfl ⟨rfl, (Below.refl _ _).drew.drew⟩
end Lk
end Go.Proofs.YtdmpneafeadbbaaGreatDoor
