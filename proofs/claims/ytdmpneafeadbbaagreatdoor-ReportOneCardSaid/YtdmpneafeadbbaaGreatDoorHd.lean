/- Texts of this claim, joined: each says ahead what it shows. Conditions: those of each contract. -/
import Derived.Test.YtdmpneafeadbbaaGreatDoorHc
set_option linter.unusedSimpArgs false
set_option maxRecDepth 100000
set_option linter.unusedVariables false
namespace Go.Proofs.YtdmpneafeadbbaaGreatDoor
open Go Go.Abs Go.RowKit
namespace La
open L Vl Rv
theorem bytes_of {a b : ByteArray} (h : a.toList = b.toList) : a = b := by
  rw [toL, toL] at h
  exact ByteArray.ext (Array.toList_inj.1 h)
set_option maxHeartbeats 16000000 in
theorem both (k m : Int) (b : Nat) (l : List UInt8) (k' m' : Int) (b' : Nat) (l' : List UInt8) (s : ByteArray) (hb : b < 18446744073709551616) (hb' : b' < 18446744073709551616) (hl : l.length ≤ 100) (hl' : l'.length ≤ 100) (hs : s.size ≤ 150)
    (h0 : -9223372036854775808 ≤ m) (h1 : m ≤ 9223372036854775807) (h0' : -9223372036854775808 ≤ m') (h1' : m' ≤ 9223372036854775807) (ho : okv k m b l = true) (ho' : okv k' m' b' l' = true) (w : World) (hv : Vars w) :
    Calls Tryz.prog 4 #[vV k m b ⟨⟨l⟩⟩, vV k' m' b' ⟨⟨l'⟩⟩, .string s] w fun e w' => e = .returned (.bool true) ∧ Below w.heap.size w w' := by
  have mixed := mix
  have ea := fun w1 => alive w1
  have hlook := looks s hs
  have e11 := c11 k m b l hb (by omega)
  rw [ho] at e11
  have e11 : ∀ w, Calls Tryz.prog 11 #[vV k m b ⟨⟨l⟩⟩] w fun e w' => e = .returned (.int .i64 0) ∧ Below w.heap.size w w' := e11
  have f11 := c11 k' m' b' l' hb' (by omega)
  rw [ho'] at f11
  have f11 : ∀ w, Calls Tryz.prog 11 #[vV k' m' b' ⟨⟨l'⟩⟩] w fun e w' => e = .returned (.int .i64 0) ∧ Below w.heap.size w w' := f11
  have hin : In (k, m, b, l) := ⟨h0, h1, hb⟩
  have hin' : In (k', m', b', l') := ⟨h0', h1', hb'⟩
  have e6 := fun w1 => value k m b l hb h0 h1 (by omega) w1
  rw [ho, if_pos rfl, if_pos rfl] at e6
  have f6 := fun w1 => value k' m' b' l' hb' h0' h1' (by omega) w1
  rw [ho', if_pos rfl, if_pos rfl] at f6
  have hT1 := txt_len61 (k, m, b, l) hin ho
  have hTd := txt_dark (k, m, b, l) ho
  have hrdT := (rd_iff (txt k m b l) (k, m, b, l)).2 ⟨hin, ho, rfl⟩
  have e8T := read ⟨(txt k m b l).toArray⟩ (by show (txt k m b l).length ≤ 1000; have := hT1.2; simp only at this; omega)
  have hx : (⟨(txt k m b l).toArray⟩ : ByteArray).data.toList = txt k m b l := rfl
  rw [hx, hrdT] at e8T
  have e8T : ∀ w, Vars w → Calls Tryz.prog 8 #[.string ⟨(txt k m b l).toArray⟩] w fun e w' => e = .returned (.tuple #[.agg #[.int .u8 k, .int .i64 m, .int .u64 b, .string ⟨⟨l⟩⟩], .int .i64 0]) ∧ Below w.heap.size w w' := e8T
  have hsame : (k = k' ∧ m = m' ∧ b = b' ∧ (⟨⟨l⟩⟩ : ByteArray) = ⟨⟨l'⟩⟩ ∧ txt k m b l = txt k' m' b' l') ∨ (txt k m b l ≠ txt k' m' b' l' ∧ ¬ (k = k' ∧ m = m' ∧ (b : Int) = b' ∧ (⟨⟨l⟩⟩ : ByteArray) = ⟨⟨l'⟩⟩)) := by
    by_cases he : txt k m b l = txt k' m' b' l'
    · have := txt_inj hin ho hin' ho' he
      cases this
      exact .inl ⟨rfl, rfl, rfl, rfl, he⟩
    · refine .inr ⟨he, fun h => he ?_⟩
      obtain ⟨q1, q2, q3, q4⟩ := h
      have q3 : b = b' := by omega
      have q4 : l = l' := congrArg (fun t : ByteArray => t.data.toList) q4
      rw [q1, q2, q3, q4]
  simp only at hT1 hTd
  have hA : ¬ ((txt k m b l).length : Int) < 1 := by omega
  have hB : ¬ (61 : Int) < ((txt k m b l).length : Int) := by omega
  have hTd : ∀ i (h : i < (txt k m b l).length), 32 < ((txt k m b l)[i]).toNat ∧ ((txt k m b l)[i]).toNat ≤ 126 := fun i h => hTd _ (List.getElem_mem h)
  clear hrdT hx hin hin' ho ho' h0 h1 h0' h1'
  generalize txt k m b l = T at *
  generalize txt k' m' b' l' = U at *
  have hls : (⟨⟨l⟩⟩ : ByteArray).size ≤ 100 := hl
  have hls' : (⟨⟨l'⟩⟩ : ByteArray).size ≤ 100 := hl'
  unfold vV at *
  generalize (⟨⟨l⟩⟩ : ByteArray) = t at *
  generalize (⟨⟨l'⟩⟩ : ByteArray) = t' at *
  have hlI : decide ((t.size : Int) > 100) = false := decide_eq_false (by omega)
  have hlI' : decide ((t'.size : Int) > 100) = false := decide_eq_false (by omega)
  have hsI : decide ((s.size : Int) > 150) = false := decide_eq_false (by omega)
  have hb0 := ((Below.refl _ w).alloc (Nat.le_refl _) (.cells #[.int .u8 k, .int .i64 m, .int .u64 b, .string t] 24)).alloc (by simp) (.cells #[.int .u8 k', .int .i64 m', .int .u64 b', .string t'] 24)
  go_enter Tryz.func4, Tryz.ntmps4
  go_wp2_with (go_at_call 10; refine (ea _ (hv.below hb0)).mono ?_)
  first | rintro e w1 rfl hb1 | rintro e w1 ⟨rfl, hb1⟩
  obtain ⟨g1, g2⟩ := two (w := w) (by simpa using hb1)
  have hbw := hb0.trans (hb1.mono (by first | omega | (simp; omega) | simp))
  obtain ⟨⟨a0, a1, a2, a3⟩, _, _, _, _⟩ := Tx.box4 g1
  obtain ⟨⟨d0, d1, d2, d3⟩, _, _, _, _⟩ := Tx.box4 g2
  clear hb0 hb1
  go_wp2_with (go_at_call 11; refine (e11 _).mono ?_)
  first | rintro e w2 rfl hb2 | rintro e w2 ⟨rfl, hb2⟩
  have hbw2 := hbw.trans (hb2.mono hbw.size)
  have i1 := (hb2.block _ (lt_heap g1)).trans g1
  have i2 := (hb2.block _ (lt_heap g2)).trans g2
  clear a0 a1 a2 a3 d0 d1 d2 d3 g1 g2 hb2 hbw
  obtain ⟨⟨d0, d1, d2, d3⟩, _, _, _, _⟩ := Tx.box4 i2
  go_wp2_with (go_at_call 11; refine (f11 _).mono ?_)
  first | rintro e w3 rfl hb3 | rintro e w3 ⟨rfl, hb3⟩
  have hbw3 := hbw2.trans (hb3.mono hbw2.size)
  have g1 := (hb3.block _ (lt_heap i1)).trans i1
  have g2 := (hb3.block _ (lt_heap i2)).trans i2
  clear d0 d1 d2 d3 i1 i2 hb3 hbw2
  obtain ⟨⟨a0, a1, a2, a3⟩, _, _, _, _⟩ := Tx.box4 g1
  go_wp2_with (go_at_call 6; refine (e6 _ (hv.below hbw3)).mono ?_)
  first | rintro e w4 rfl hb4 | rintro e w4 ⟨rfl, hb4⟩
  have hbw4 := hbw3.trans (hb4.mono hbw3.size)
  have i1 := (hb4.block _ (lt_heap g1)).trans g1
  have i2 := (hb4.block _ (lt_heap g2)).trans g2
  clear a0 a1 a2 a3 g1 g2 hb4 hbw3
  obtain ⟨⟨d0, d1, d2, d3⟩, _, _, _, _⟩ := Tx.box4 i2
  go_wp2_with (go_at_call 6; refine (f6 _ (hv.below hbw4)).mono ?_)
  first | rintro e w5 rfl hb5 | rintro e w5 ⟨rfl, hb5⟩
  have hbw5 := hbw4.trans (hb5.mono hbw4.size)
  have g1 := (hb5.block _ (lt_heap i1)).trans i1
  have g2 := (hb5.block _ (lt_heap i2)).trans i2
  clear d0 d1 d2 d3 i1 i2 hb5 hbw4
  go_wp2_with (go_at_call 8; refine (e8T _ (hv.below hbw5)).mono ?_)
  first | rintro e w6 rfl hb6 | rintro e w6 ⟨rfl, hb6⟩
  have hbw6 := hbw5.trans (hb6.mono hbw5.size)
  have i1 := (hb6.block _ (lt_heap g1)).trans g1
  have i2 := (hb6.block _ (lt_heap g2)).trans g2
  have j1 := lt_heap i1
  have j2 := lt_heap i2
  clear g1 g2 hb6 hbw5
  obtain ⟨⟨a0, a1, a2, a3⟩, _, _, _, _⟩ := Tx.box4 i1
  obtain ⟨⟨d0, d1, d2, d3⟩, _, _, _, _⟩ := Tx.box4 i2
  have hbw7 := fun o => hbw6.alloc hbw6.size o
  clear i1 i2 e11 f11 e6 f6 e8T ea
  rcases hsame with ⟨rfl, rfl, rfl, rfl, rfl⟩ | ⟨hne, hnv⟩
  · go_wp2_with fail
    go_loop [14] (fun vi => ∃ i : Nat, vi = .int .i64 i ∧ i ≤ T.length) (fun vi => T.length - (intOf vi).toNat)
    case atStart => exact ⟨0, rfl, Nat.zero_le _⟩
    case round =>
      obtain ⟨i, rfl, hi⟩ := hrel
      by_cases hlt : i < T.length
      · obtain ⟨hd1, hd2⟩ := hTd i hlt
        have hc : ((⟨T.toArray⟩ : ByteArray)[i]'(show i < T.toArray.size by simpa using hlt)).toNat = (T[i]).toNat := rfl
        generalize (T[i]).toNat = x at hc hd1 hd2
        have hx1 : ¬ ((x : Int) ≤ 32) := by omega
        have hx2 : ¬ ((126 : Int) < (x : Int)) := by omega
        clear hd1 hd2 hTd
        go_wp2
        all_goals first
          | (exfalso; omega)
          | exact ⟨⟨i + 1, by go_num, by omega⟩, by simp [intOf]; omega⟩
      · have hi' : i = T.length := by omega
        subst hi'
        clear hTd
        rcases hlook with e8 | ⟨K, M, B, X, e8, e6s, e12⟩
        · go_wp2_with (go_at_call 8; refine (e8 _ (hv.below (hbw7 _))).mono ?_)
          first | rintro e y3 rfl x3 | rintro e y3 ⟨rfl, x3⟩
          have x3 := (hbw7 _).trans (x3.mono (by have := hbw6.size; first | omega | (simp; omega)))
          go_wp2
          go_ret
          exact ⟨rfl, x3.alloc x3.size _⟩
        · go_wp2_with (go_at_call 8; refine (e8 _ (hv.below (hbw7 _))).mono ?_)
          first | rintro e y3 rfl x3 | rintro e y3 ⟨rfl, x3⟩
          have x3 := ((hbw7 _).trans (x3.mono (by have := hbw6.size; first | omega | (simp; omega))))
          have x4 := x3.alloc x3.size (.cells #[.int .u8 K, .int .i64 M, .int .u64 B, .string X] 24)
          go_wp2_with (go_at_call 6; refine (e6s _ (hv.below x4)).mono ?_)
          first | rintro e y4 rfl x5 | rintro e y4 ⟨rfl, x5⟩
          have z4 : y4.heap[y3.heap.size]? = some (.cells #[.int .u8 K, .int .i64 M, .int .u64 B, .string X] 24 (0, 0)) := (x5.block _ (by simp)).trans (Tx.heap_new _ _)
          have x5 := x4.trans (x5.mono x4.size)
          obtain ⟨⟨p0, p1, p2, p3⟩, _, _, _, _⟩ := Tx.box4 z4
          go_wp2_with (go_at_call 12; refine (e12 _).mono ?_)
          first | rintro e y5 rfl x6 | rintro e y5 ⟨rfl, x6⟩
          have x6 := x5.trans (x6.mono x5.size)
          go_wp2
          go_ret
          exact ⟨rfl, x6⟩
  · have hTU : (T == U) = false := by simpa using hne
    go_wp2_with fail
    all_goals first
      | (exfalso; exact hnv ⟨by assumption, by assumption, by assumption, bytes_of (by assumption)⟩)
      | skip
    all_goals (
      go_loop [14] (fun vi => ∃ i : Nat, vi = .int .i64 i ∧ i ≤ T.length) (fun vi => T.length - (intOf vi).toNat)
      case atStart => exact ⟨0, rfl, Nat.zero_le _⟩
      case round =>
        obtain ⟨i, rfl, hi⟩ := hrel
        by_cases hlt : i < T.length
        · obtain ⟨hd1, hd2⟩ := hTd i hlt
          have hc : ((⟨T.toArray⟩ : ByteArray)[i]'(show i < T.toArray.size by simpa using hlt)).toNat = (T[i]).toNat := rfl
          generalize (T[i]).toNat = x at hc hd1 hd2
          have hx1 : ¬ ((x : Int) ≤ 32) := by omega
          have hx2 : ¬ ((126 : Int) < (x : Int)) := by omega
          clear hd1 hd2 hTd
          go_wp2
          all_goals first
            | (exfalso; omega)
            | exact ⟨⟨i + 1, by go_num, by omega⟩, by simp [intOf]; omega⟩
        · have hi' : i = T.length := by omega
          subst hi'
          clear hTd
          rcases hlook with e8 | ⟨K, M, B, X, e8, e6s, e12⟩
          · go_wp2_with (go_at_call 8; refine (e8 _ (hv.below (hbw7 _))).mono ?_)
            first | rintro e y3 rfl x3 | rintro e y3 ⟨rfl, x3⟩
            have x3 := (hbw7 _).trans (x3.mono (by have := hbw6.size; first | omega | (simp; omega)))
            go_wp2
            go_ret
            exact ⟨rfl, x3.alloc x3.size _⟩
          · go_wp2_with (go_at_call 8; refine (e8 _ (hv.below (hbw7 _))).mono ?_)
            first | rintro e y3 rfl x3 | rintro e y3 ⟨rfl, x3⟩
            have x3 := ((hbw7 _).trans (x3.mono (by have := hbw6.size; first | omega | (simp; omega))))
            have x4 := x3.alloc x3.size (.cells #[.int .u8 K, .int .i64 M, .int .u64 B, .string X] 24)
            go_wp2_with (go_at_call 6; refine (e6s _ (hv.below x4)).mono ?_)
            first | rintro e y4 rfl x5 | rintro e y4 ⟨rfl, x5⟩
            have z4 : y4.heap[y3.heap.size]? = some (.cells #[.int .u8 K, .int .i64 M, .int .u64 B, .string X] 24 (0, 0)) := (x5.block _ (by simp)).trans (Tx.heap_new _ _)
            have x5 := x4.trans (x5.mono x4.size)
            obtain ⟨⟨p0, p1, p2, p3⟩, _, _, _, _⟩ := Tx.box4 z4
            go_wp2_with (go_at_call 12; refine (e12 _).mono ?_)
            first | rintro e y5 rfl x6 | rintro e y5 ⟨rfl, x6⟩
            have x6 := x5.trans (x6.mono x5.size)
            go_wp2
            go_ret
            exact ⟨rfl, x6⟩
)
end La
end Go.Proofs.YtdmpneafeadbbaaGreatDoor
set_option maxRecDepth 100000
set_option linter.unusedVariables false
namespace Go.Proofs.YtdmpneafeadbbaaGreatDoor
open Go Go.Abs Go.RowKit
namespace La
open L Vl Rv
set_option maxHeartbeats 1600000 in
theorem long1 (k m : Int) (b : Nat) (l : List UInt8) (k' m' : Int) (b' : Nat) (l' : List UInt8) (s : ByteArray) (hl : 100 < l.length) (w : World) (hv : Vars w) :
    Calls Tryz.prog 4 #[vV k m b ⟨⟨l⟩⟩, vV k' m' b' ⟨⟨l'⟩⟩, .string s] w fun e w' => e = .returned (.bool true) ∧ Below w.heap.size w w' := by
  have mixed := mix
  have ea := fun w1 => alive w1
  have hlI : decide (((⟨⟨l⟩⟩ : ByteArray).size : Int) > 100) = true := by show decide ((l.length : Int) > 100) = true; first | exact decide_eq_true (by omega) | exact decide_eq_false (by omega)
  unfold vV at *
  generalize (⟨⟨l⟩⟩ : ByteArray) = t at *
  generalize (⟨⟨l'⟩⟩ : ByteArray) = t' at *
  have hb0 := ((Below.refl _ w).alloc (Nat.le_refl _) (.cells #[.int .u8 k, .int .i64 m, .int .u64 b, .string t] 24)).alloc (by simp) (.cells #[.int .u8 k', .int .i64 m', .int .u64 b', .string t'] 24)
  go_enter Tryz.func4, Tryz.ntmps4
  go_wp2_with (go_at_call 10; refine (ea _ (hv.below hb0)).mono ?_)
  first | rintro e w1 rfl hb1 | rintro e w1 ⟨rfl, hb1⟩
  obtain ⟨g1, g2⟩ := two (w := w) (by simpa using hb1)
  have hbw := hb0.trans (hb1.mono (by first | omega | (simp; omega) | simp))
  obtain ⟨⟨a0, a1, a2, a3⟩, _, _, _, _⟩ := Tx.box4 g1
  obtain ⟨⟨d0, d1, d2, d3⟩, _, _, _, _⟩ := Tx.box4 g2
  clear hb0 hb1
  go_wp2_with fail
  go_ret
  exact ⟨rfl, hbw⟩
set_option maxHeartbeats 1600000 in
theorem long2 (k m : Int) (b : Nat) (l : List UInt8) (k' m' : Int) (b' : Nat) (l' : List UInt8) (s : ByteArray) (hl : l.length ≤ 100) (hl' : 100 < l'.length) (w : World) (hv : Vars w) :
    Calls Tryz.prog 4 #[vV k m b ⟨⟨l⟩⟩, vV k' m' b' ⟨⟨l'⟩⟩, .string s] w fun e w' => e = .returned (.bool true) ∧ Below w.heap.size w w' := by
  have mixed := mix
  have ea := fun w1 => alive w1
  have hlI : decide (((⟨⟨l⟩⟩ : ByteArray).size : Int) > 100) = false := by show decide ((l.length : Int) > 100) = false; first | exact decide_eq_true (by omega) | exact decide_eq_false (by omega)
  have hlI' : decide (((⟨⟨l'⟩⟩ : ByteArray).size : Int) > 100) = true := by show decide ((l'.length : Int) > 100) = true; first | exact decide_eq_true (by omega) | exact decide_eq_false (by omega)
  unfold vV at *
  generalize (⟨⟨l⟩⟩ : ByteArray) = t at *
  generalize (⟨⟨l'⟩⟩ : ByteArray) = t' at *
  have hb0 := ((Below.refl _ w).alloc (Nat.le_refl _) (.cells #[.int .u8 k, .int .i64 m, .int .u64 b, .string t] 24)).alloc (by simp) (.cells #[.int .u8 k', .int .i64 m', .int .u64 b', .string t'] 24)
  go_enter Tryz.func4, Tryz.ntmps4
  go_wp2_with (go_at_call 10; refine (ea _ (hv.below hb0)).mono ?_)
  first | rintro e w1 rfl hb1 | rintro e w1 ⟨rfl, hb1⟩
  obtain ⟨g1, g2⟩ := two (w := w) (by simpa using hb1)
  have hbw := hb0.trans (hb1.mono (by first | omega | (simp; omega) | simp))
  obtain ⟨⟨a0, a1, a2, a3⟩, _, _, _, _⟩ := Tx.box4 g1
  obtain ⟨⟨d0, d1, d2, d3⟩, _, _, _, _⟩ := Tx.box4 g2
  clear hb0 hb1
  go_wp2_with fail
  go_ret
  exact ⟨rfl, hbw⟩
set_option maxHeartbeats 1600000 in
theorem long3 (k m : Int) (b : Nat) (l : List UInt8) (k' m' : Int) (b' : Nat) (l' : List UInt8) (s : ByteArray) (hl : l.length ≤ 100) (hl' : l'.length ≤ 100) (hs : 150 < s.size) (w : World) (hv : Vars w) :
    Calls Tryz.prog 4 #[vV k m b ⟨⟨l⟩⟩, vV k' m' b' ⟨⟨l'⟩⟩, .string s] w fun e w' => e = .returned (.bool true) ∧ Below w.heap.size w w' := by
  have mixed := mix
  have ea := fun w1 => alive w1
  have hlI : decide (((⟨⟨l⟩⟩ : ByteArray).size : Int) > 100) = false := by show decide ((l.length : Int) > 100) = false; first | exact decide_eq_true (by omega) | exact decide_eq_false (by omega)
  have hlI' : decide (((⟨⟨l'⟩⟩ : ByteArray).size : Int) > 100) = false := by show decide ((l'.length : Int) > 100) = false; first | exact decide_eq_true (by omega) | exact decide_eq_false (by omega)
  have hsI : decide ((s.size : Int) > 150) = true := decide_eq_true (by omega)
  unfold vV at *
  generalize (⟨⟨l⟩⟩ : ByteArray) = t at *
  generalize (⟨⟨l'⟩⟩ : ByteArray) = t' at *
  have hb0 := ((Below.refl _ w).alloc (Nat.le_refl _) (.cells #[.int .u8 k, .int .i64 m, .int .u64 b, .string t] 24)).alloc (by simp) (.cells #[.int .u8 k', .int .i64 m', .int .u64 b', .string t'] 24)
  go_enter Tryz.func4, Tryz.ntmps4
  go_wp2_with (go_at_call 10; refine (ea _ (hv.below hb0)).mono ?_)
  first | rintro e w1 rfl hb1 | rintro e w1 ⟨rfl, hb1⟩
  obtain ⟨g1, g2⟩ := two (w := w) (by simpa using hb1)
  have hbw := hb0.trans (hb1.mono (by first | omega | (simp; omega) | simp))
  obtain ⟨⟨a0, a1, a2, a3⟩, _, _, _, _⟩ := Tx.box4 g1
  obtain ⟨⟨d0, d1, d2, d3⟩, _, _, _, _⟩ := Tx.box4 g2
  clear hb0 hb1
  go_wp2_with fail
  go_ret
  exact ⟨rfl, hbw⟩
theorem run4 (k m : Int) (b : Nat) (l : List UInt8) (k' m' : Int) (b' : Nat) (l' : List UInt8) (s : ByteArray) (hb : b < 18446744073709551616) (hb' : b' < 18446744073709551616)
    (h0 : -9223372036854775808 ≤ m) (h1 : m ≤ 9223372036854775807) (h0' : -9223372036854775808 ≤ m') (h1' : m' ≤ 9223372036854775807) (w : World) (hv : Vars w) :
    Calls Tryz.prog 4 #[vV k m b ⟨⟨l⟩⟩, vV k' m' b' ⟨⟨l'⟩⟩, .string s] w fun e w' => e = .returned (.bool true) ∧ Below w.heap.size w w' := by
  rcases Nat.lt_or_ge 100 l.length with hl | hl
  · exact long1 k m b l k' m' b' l' s hl w hv
  · rcases Nat.lt_or_ge 100 l'.length with hl' | hl'
    · exact long2 k m b l k' m' b' l' s hl hl' w hv
    · rcases Nat.lt_or_ge 150 s.size with hs | hs
      · exact long3 k m b l k' m' b' l' s hl hl' hs w hv
      · cases ho : okv k m b l with
        | false => exact one_bad k m b l k' m' b' l' s hb hb' hl hl' hs ho w hv
        | true =>
          cases ho' : okv k' m' b' l' with
          | false => exact two_bad k m b l k' m' b' l' s hb hb' hl hl' hs ho ho' w hv
          | true => exact both k m b l k' m' b' l' s hb hb' hl hl' hs h0 h1 h0' h1' ho ho' w hv
end La
end Go.Proofs.YtdmpneafeadbbaaGreatDoor
