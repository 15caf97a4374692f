/- Texts of this claim, joined: each says ahead what it shows. Conditions: those of each contract. -/
import Derived.Test.YtdmpneafeadbbaaGreatDoorHb
import Derived.Test.YtdmpneafeadbbaaGreatDoorHa
set_option linter.unusedSimpArgs false
set_option maxRecDepth 100000
set_option linter.unusedVariables false
namespace Go.Proofs.YtdmpneafeadbbaaGreatDoor
open Go Go.Abs Go.RowKit
namespace La
open L Vl Rv
set_option maxHeartbeats 800000 in
theorem join1 (blk cap : Nat) (a sep : ByteArray) (w : World) (h0 : w.cell? ⟨blk, 0, none⟩ = some (.string a)) :
    Calls Tryz.prog 41 #[.slice (some ⟨blk, 0, none⟩) 1 cap, .string sep] w fun e w' => e = .returned (.string a) ∧ Below w.heap.size w w' := by
  have mixed := mix
  go_enter Tryz.func41, Tryz.ntmps41
  go_wp2
  go_ret
  exact ⟨rfl, Below.refl _ _⟩
set_option maxHeartbeats 800000 in
theorem join2 (blk : Nat) (w : World) (hlt : blk < w.heap.size) (h0 : w.cell? ⟨blk, 0, none⟩ = some (.string ⟨#[118, 101, 114, 115, 105, 111, 110]⟩)) (h1 : w.cell? ⟨blk, 1, none⟩ = some (.string ⟨#[48]⟩)) :
    Calls Tryz.prog 41 #[.slice (some ⟨blk, 0, none⟩) 2 2, .string ⟨#[32]⟩] w fun e w' => e = .returned (.string ⟨#[118, 101, 114, 115, 105, 111, 110, 32, 48]⟩) ∧ Below w.heap.size w w' := by
  have mixed := mix
  have h1' : w.cell? ⟨blk, 0 + 1, none⟩ = some (.string ⟨#[48]⟩) := h1
  go_enter Tryz.func41, Tryz.ntmps41
  go_wp2
  refine wp_loop_rounds 3 ?_
  rw [rounds_succ]
  go_wp2
  rw [rounds_succ]
  go_wp2
  rw [rounds_succ]
  go_wp2_with (go_at_call 75; refine (Bu.Grow w.heap.size w.heap.size 9 _ (Nat.le_refl _) (Tx.heap_new _ _) (by simp) (by decide)).mono ?_)
  rintro e w1 ⟨rfl, k1, b1⟩
  have b1 := ((Below.refl _ w).alloc (Nat.le_refl _) (.cells #[.pointer none, .slice none 0 0] 84)).trans b1
  have q0 := (b1.cell (p := ⟨blk, 0, none⟩) hlt).trans h0
  go_wp2_with (go_at_call 40; refine (Bu.writeString w.heap.size w.heap.size [] _ w1 (.inr k1) (by decide) b1.size).mono ?_)
  rintro e w2 ⟨rfl, k2, b2⟩
  have b2 := b1.trans b2
  have q1 : w2.cell? ⟨blk, 1, none⟩ = some (.string ⟨#[48]⟩) := (b2.cell (p := ⟨blk, 1, none⟩) hlt).trans h1
  clear k1 b1 q0 h0
  go_wp2_with fail
  refine wp_loop_rounds 2 ?_
  rw [rounds_succ]
  go_wp2_with (go_at_call 40; refine (Bu.writeString w.heap.size w.heap.size _ ⟨#[32]⟩ w2 (.inr k2) (by decide) b2.size).mono ?_)
  rintro e w3 ⟨rfl, k3, b3⟩
  have b3 := b2.trans b3
  clear k2 b2 q1
  go_wp2_with (go_at_call 40; refine (Bu.writeString w.heap.size w.heap.size _ ⟨#[48]⟩ w3 (.inr k3) (by decide) b3.size).mono ?_)
  rintro e w4 ⟨rfl, k4, b4⟩
  have b4 := b3.trans b4
  clear k3 b3
  go_wp2_with fail
  rw [rounds_succ]
  have k4 : Lib.BuilderAt 84 5 w.heap.size w.heap.size (.pointer (some ⟨w.heap.size, 0, none⟩)) (Lib.byteCells [118, 101, 114, 115, 105, 111, 110, 32, 48]) w4 := k4
  go_wp2_with (go_at_call 44; refine (Tryz.Builder_String_any w.heap.size w.heap.size _ w4 (.inr k4) b4.size).mono ?_)
  rintro e w5 ⟨rfl, b5⟩
  have b5 := b4.trans b5
  go_wp2
  go_ret
  exact ⟨rfl, b5⟩
end La
end Go.Proofs.YtdmpneafeadbbaaGreatDoor
set_option maxRecDepth 100000
set_option linter.unusedVariables false
namespace Go.Proofs.YtdmpneafeadbbaaGreatDoor
open Go Go.Abs Go.RowKit
namespace La
theorem keepB {B b : Nat} {p : Value} {bs : List Value} {w w' : World} (h : Lib.BuilderAt 84 5 B b p bs w) (hb : Below w.heap.size w w') : Lib.BuilderAt 84 5 B b p bs w' := by
  obtain ⟨h1, v, h2, h3, h4⟩ := h
  refine ⟨h1, v, (hb.block _ (lt_heap h2)).trans h2, ⟨h3.1, ?_⟩, h4⟩
  rcases h3.2 with h | ⟨g, cap, cur, rfl, k1, k2, k3⟩
  · exact .inl h
  · exact .inr ⟨g, cap, cur, rfl, k1, (hb.block _ (lt_heap k2)).trans k2, k3⟩
theorem keepIs {B b : Nat} {bs : List Value} {w w' : World} (h : Lib.IsBuilder 84 5 B b bs w) (hb : Below w.heap.size w w') : Lib.IsBuilder 84 5 B b bs w' := by
  rcases h with h | h
  · exact .inl (keepB h hb)
  · exact .inr (keepB h hb)
set_option maxHeartbeats 800000 in
theorem line (sl : Value) (j : ByteArray) (hj1 : j.size ≤ 1000) (B b : Nat) (bs : List Value) (hbs : bs.length ≤ 100000) (w : World) (hj : Calls Tryz.prog 41 #[sl, .string ⟨#[32]⟩] w fun e w' => e = .returned (.string j) ∧ Below w.heap.size w w') (h : Lib.IsBuilder 84 5 B b bs w) (hB : B ≤ w.heap.size) :
    Calls Tryz.prog 39 #[sl, .pointer (some ⟨b, 0, none⟩)] w fun e w' => e = .returned (.tuple #[]) ∧ (Lib.BuilderAt 84 5 B b (.pointer (some ⟨b, 0, none⟩)) (bs ++ Lib.strCells (j ++ ⟨#[10]⟩)) w' ∧ Below B w w') := by
  have mixed := mix
  have hjs : (j ++ ⟨#[10]⟩ : ByteArray).size = j.size + 1 := by rw [ByteArray.size_append]; rfl
  go_enter Tryz.func39, Tryz.ntmps39
  go_wp2_with (go_at_call 41; refine hj.mono ?_)
  rintro e w1 ⟨rfl, b1⟩
  have k1 := keepIs h b1
  have b1 := b1.mono hB
  go_wp2_with (go_at_call 40; refine (Bu.writeString B b bs _ w1 k1 (by omega) (Nat.le_trans hB b1.size)).mono ?_)
  rintro e w2 ⟨rfl, k2, b2⟩
  have b2 := b1.trans b2
  go_wp2
  go_end0
  exact ⟨rfl, k2, b2⟩
set_option maxHeartbeats 800000 in
theorem text0 (w : World) : Calls Tryz.prog 14 #[noState] w fun e w' => e = .returned (.tuple #[.string ⟨#[118, 101, 114, 115, 105, 111, 110, 32, 48, 10, 104, 101, 97, 100, 115, 10]⟩, .int .i64 0]) ∧ Below w.heap.size w w' := by
  have mixed := mix
  have hmf : ∀ (fn : Fn) (first cap : Array Value) (w : World), (Instr.makeFunc fn first cap).run Tryz.prog w = .ok (.func fn first cap) w := fun _ _ _ _ => rfl
  have h15 := fun w => check15 w
  unfold noState at *
  go_enter Tryz.func14, Tryz.ntmps14
  go_wp2_with (go_at_call 15; refine (h15 _).mono ?_)
  rintro e w1 ⟨rfl, hb1⟩
  have g1 : w1.heap[w.heap.size]? = some (.cells #[.int .i64 0, .slice none 0 0, .slice none 0 0, .slice none 0 0] 47 (0, 0)) := (hb1.block _ (by simp)).trans (Tx.heap_new _ _)
  have hb1 := ((Below.refl _ w).alloc (Nat.le_refl _) (.cells #[.int .i64 0, .slice none 0 0, .slice none 0 0, .slice none 0 0] 47)).trans (hb1.mono (by simp))
  obtain ⟨⟨a0, a1, a2, a3⟩, _, _, _, _⟩ := box4s g1
  have hlt1 := lt_heap g1
  go_wp2_with (go_at_call 42; refine (num0 _).mono ?_)
  rintro e w2 ⟨rfl, hb2⟩
  have gB : w2.heap[w1.heap.size]? = some (.cells #[.pointer none, .slice none 0 0] 84 (0, 0)) := (hb2.block _ (by simp)).trans (Tx.heap_new _ _)
  have g2 := (hb2.block w.heap.size (by simp; omega)).trans ((Below.heap_alloc _ _ _ hlt1).trans g1)
  have hs2 : w1.heap.size ≤ w2.heap.size := Nat.le_of_lt (lt_heap gB)
  have hb2 := (hb1.alloc hb1.size (.cells #[.pointer none, .slice none 0 0] 84)).trans (hb2.mono (by simp; omega))
  have kB : Lib.IsBuilder 84 5 w1.heap.size w1.heap.size [] (w2.alloc (.cells #[.string ⟨#[118, 101, 114, 115, 105, 111, 110]⟩, .string ⟨#[48]⟩] 9)) := .inl ⟨Nat.le_refl _, .slice none 0 0, (Below.heap_alloc _ _ _ (lt_heap gB)).trans gB, ⟨rfl, .inl ⟨rfl, rfl⟩⟩, by simp [Value.ownBlock]⟩
  have hj := join2 w2.heap.size (w2.alloc (.cells #[.string ⟨#[118, 101, 114, 115, 105, 111, 110]⟩, .string ⟨#[48]⟩] 9)) (by simp) ((Lib.cell_of_heap (Tx.heap_new _ _) 0).trans rfl) ((Lib.cell_of_heap (Tx.heap_new _ _) 1).trans rfl)
  have hb3 := hb2.alloc hb2.size (.cells #[.string ⟨#[118, 101, 114, 115, 105, 111, 110]⟩, .string ⟨#[48]⟩] 9)
  have g3 := (Below.heap_alloc w2 (.cells #[.string ⟨#[118, 101, 114, 115, 105, 111, 110]⟩, .string ⟨#[48]⟩] 9) _ (lt_heap g2)).trans g2
  go_wp2_with (go_at_call 39; refine (line _ _ (by decide) w1.heap.size w1.heap.size [] (by decide) _ hj kB (by simp; omega)).mono ?_)
  rintro e w3 ⟨rfl, k3, b3⟩
  have g4 := (b3.block w.heap.size hlt1).trans g3
  have hs3 : w1.heap.size ≤ w3.heap.size := Nat.le_trans hs2 (by have := b3.size; simp at this; omega)
  have hb4 := hb3.trans (b3.mono hb1.size)
  obtain ⟨⟨c0, c1, c2, c3⟩, _, _, _, _⟩ := box4s g4
  have hlt3 := lt_heap g4
  clear a0 a1 a2 a3 g1 g2 g3 gB kB hj hb2 hb3 b3
  have kB : Lib.IsBuilder 84 5 w1.heap.size w1.heap.size _ (w3.alloc (.cells #[.string ⟨#[104, 101, 97, 100, 115]⟩] 9)) := keepIs (.inr k3) ((Below.refl _ _).alloc (Nat.le_refl _) _)
  have hj := join1 w3.heap.size 1 ⟨#[104, 101, 97, 100, 115]⟩ ⟨#[32]⟩ (w3.alloc (.cells #[.string ⟨#[104, 101, 97, 100, 115]⟩] 9)) ((Lib.cell_of_heap (Tx.heap_new _ _) 0).trans rfl)
  have hb5 := hb4.alloc hb4.size (.cells #[.string ⟨#[104, 101, 97, 100, 115]⟩] 9)
  have g5 := (Below.heap_alloc w3 (.cells #[.string ⟨#[104, 101, 97, 100, 115]⟩] 9) _ (lt_heap g4)).trans g4
  go_wp2_with fail
  refine wp_loop_rounds 1 ?_
  rw [rounds_succ]
  go_wp2_with (go_at_call 39; refine (line _ _ (by decide) w1.heap.size w1.heap.size _ (by decide) _ hj kB (by simp; omega)).mono ?_)
  rintro e w4 ⟨rfl, k4, b4⟩
  have g6 := (b4.block w.heap.size hlt1).trans g5
  have hs4 : w1.heap.size ≤ w4.heap.size := Nat.le_trans hs3 (by have := b4.size; simp at this; omega)
  have hb6 := hb5.trans (b4.mono (by have := hb1.size; omega))
  clear c0 c1 c2 c3 g4 g5 kB hj hb4 hb5 b4 hlt3 k3
  obtain ⟨⟨c0, c1, c2, c3⟩, _, _, _, _⟩ := box4s g6
  have hlt4 := lt_heap g6
  go_wp2_with fail
  refine wp_loop_rounds 1 ?_
  rw [rounds_succ]
  go_wp2_with fail
  refine wp_loop_rounds 1 ?_
  rw [rounds_succ]
  have k4 : Lib.BuilderAt 84 5 w1.heap.size w1.heap.size (.pointer (some ⟨w1.heap.size, 0, none⟩)) (Lib.byteCells [118, 101, 114, 115, 105, 111, 110, 32, 48, 10, 104, 101, 97, 100, 115, 10]) w4 := k4
  go_wp2_with (go_at_call 44; refine (Tryz.Builder_String_any w1.heap.size w1.heap.size _ w4 (.inr k4) hs4).mono ?_)
  rintro e w5 ⟨rfl, b5⟩
  have hb7 := hb6.trans (b5.mono (by have := hb1.size; omega))
  go_wp2
  go_ret2
  exact ⟨rfl, hb7⟩
end La
end Go.Proofs.YtdmpneafeadbbaaGreatDoor
set_option maxRecDepth 100000
set_option linter.unusedVariables false
namespace Go.Proofs.YtdmpneafeadbbaaGreatDoor
open Go Go.Abs Go.RowKit
namespace La
open L Vl Rv
theorem rd1 : Reads (⟨#[110, 45, 53]⟩ : ByteArray).data.toList (1, -5, 0, []) := by
  refine ⟨⟨by decide, by decide, by decide⟩, by decide, ?_⟩
  show txt 1 (-5) 0 [] = _
  rw [txt1]
  unfold Lib.itoa
  rw [if_pos (by decide), show (-5 : Int).natAbs = 5 from rfl, dec_small (by decide)]
  rfl
theorem rd2 : Reads (⟨#[102, 51, 102, 102, 48, 48, 48, 48, 48, 48, 48, 48, 48, 48, 48, 48, 48]⟩ : ByteArray).data.toList (2, 0, 4607182418800017408, []) := ⟨⟨by decide, by decide, by decide⟩, by decide, by decide⟩
theorem rd3 : Reads (⟨#[116, 97, 92, 115, 98]⟩ : ByteArray).data.toList (3, 0, 0, [97, 32, 98]) := ⟨⟨by decide, by decide, by decide⟩, by decide, by decide⟩
theorem rd4 : Reads (⟨#[116]⟩ : ByteArray).data.toList (3, 0, 0, []) := ⟨⟨by decide, by decide, by decide⟩, by decide, by decide⟩
set_option maxHeartbeats 800000 in
theorem alive (w : World) (hv : Vars w) : Calls Tryz.prog 10 #[] w fun e w' => e = .returned (.bool true) ∧ Below w.heap.size w w' := by
  have mixed := mix
  have t0 := text0
  have u1 := fun w1 => writes 1 (-5) 0 [] ⟨#[110, 45, 53]⟩ rd1 (by decide) (by decide) w1
  have u2 := fun w1 => writes 2 0 4607182418800017408 [] ⟨#[102, 51, 102, 102, 48, 48, 48, 48, 48, 48, 48, 48, 48, 48, 48, 48, 48]⟩ rd2 (by decide) (by decide) w1
  have u3 := fun w1 => writes 3 0 0 [97, 32, 98] ⟨#[116, 97, 92, 115, 98]⟩ rd3 (by decide) (by decide) w1
  have u4 := fun w1 => writes 3 0 0 [] ⟨#[116]⟩ rd4 (by decide) (by decide) w1
  unfold noState at t0
  unfold vV at u1 u2 u3 u4
  go_enter Tryz.func10, Tryz.ntmps10
  go_wp2_with (go_at_call 14; refine (t0 _).mono ?_)
  rintro e w1 ⟨rfl, b1⟩
  go_wp2_with (go_at_call 31; refine (u1 _ (hv.below b1)).mono ?_)
  rintro e w2 ⟨rfl, b2⟩
  have b2 := b1.trans (b2.mono b1.size)
  go_wp2_with (go_at_call 31; refine (u2 _ (hv.below b2)).mono ?_)
  rintro e w3 ⟨rfl, b3⟩
  have b3 := b2.trans (b3.mono b2.size)
  go_wp2_with (go_at_call 31; refine (u3 _ (hv.below b3)).mono ?_)
  rintro e w4 ⟨rfl, b4⟩
  have b4 := b3.trans (b4.mono b3.size)
  go_wp2_with (go_at_call 31; refine (u4 _ (hv.below b4)).mono ?_)
  rintro e w5 ⟨rfl, b5⟩
  have b5 := b4.trans (b5.mono b4.size)
  go_wp2
  go_ret
  exact ⟨rfl, b5⟩
end La
end Go.Proofs.YtdmpneafeadbbaaGreatDoor
set_option maxRecDepth 100000
set_option linter.unusedVariables false
namespace Go.Proofs.YtdmpneafeadbbaaGreatDoor
open Go Go.Abs Go.RowKit
namespace La
open L Vl Rv
theorem c11 (k m : Int) (b : Nat) (l : List UInt8) (hb : b < 18446744073709551616) (hl : l.length ≤ 500) (w : World) :
    Calls Tryz.prog 11 #[vV k m b ⟨⟨l⟩⟩] w fun e w' => e = .returned (.int .i64 (if okv k m b l = true then 0 else 8)) ∧ Below w.heap.size w w' := by
  have h := calls_of_con (r11_ok 1000) rfl rfl rfl (r11_eq 1000 k m b l hb (by omega) (by omega)) w
  refine h.mono fun e w' ⟨h1, h2⟩ => ⟨?_, h2⟩
  rw [h1]
  cases okv k m b l <;> rfl
theorem two {w W : World} {o1 o2 : Obj} (h : Below (w.heap.size + 2) ((w.alloc o1).alloc o2) W) : W.heap[w.heap.size]? = some o1 ∧ W.heap[w.heap.size + 1]? = some o2 := by
  constructor
  · rw [h.block _ (by omega), Below.heap_alloc _ _ _ (by simp)]
    exact Tx.heap_new _ _
  · rw [h.block _ (by omega)]
    have := Tx.heap_new (w.alloc o1) o2
    simpa using this
theorem looks (s : ByteArray) (hs : s.size ≤ 150) : (∀ w, Vars w → Calls Tryz.prog 8 #[.string s] w fun e w' => e = .returned (.tuple #[.agg #[.int .u8 0, .int .i64 0, .int .u64 0, .string ⟨#[]⟩], .int .i64 12]) ∧ Below w.heap.size w w') ∨
    ∃ (K M B : Int) (X : ByteArray), (∀ w, Vars w → Calls Tryz.prog 8 #[.string s] w fun e w' => e = .returned (.tuple #[.agg #[.int .u8 K, .int .i64 M, .int .u64 B, .string X], .int .i64 0]) ∧ Below w.heap.size w w') ∧
      (∀ w, Vars w → Calls Tryz.prog 6 #[.agg #[.int .u8 K, .int .i64 M, .int .u64 B, .string X]] w fun e w' => e = .returned (.tuple #[.string s, .int .i64 0]) ∧ Below w.heap.size w w') ∧
      (∀ w, Calls Tryz.prog 12 #[.agg #[.int .u8 K, .int .i64 M, .int .u64 B, .string X]] w fun e w' => e = .returned (.int .i64 0) ∧ Below w.heap.size w w') := by
  have h := read s (by omega)
  cases hr : rd s.data.toList with
  | none => rw [hr] at h; exact .inl h
  | some v =>
    rw [hr] at h
    obtain ⟨k, m, b, l⟩ := v
    obtain ⟨⟨h0, h1, hb⟩, ho, ht⟩ := (rd_iff _ _).1 hr
    simp only at h0 h1 hb ho ht
    have hl : l.length ≤ 500 := by
      rcases okv_kind ho with rfl | rfl | ⟨rfl, hl⟩
      · rw [(okv1 ho).2]; exact Nat.zero_le _
      · rw [(okv2 ho).2]; exact Nat.zero_le _
      · omega
    have e6 := fun w1 => value k m b l hb h0 h1 (by omega) w1
    rw [ho, if_pos rfl, if_pos rfl, ht] at e6
    have e12 := fun w1 => check k m b l hb (by omega) w1
    rw [ho] at e12
    exact .inr ⟨k, m, b, ⟨⟨l⟩⟩, h, e6, e12⟩
set_option maxHeartbeats 1600000 in
theorem one_bad (k m : Int) (b : Nat) (l : List UInt8) (k' m' : Int) (b' : Nat) (l' : List UInt8) (s : ByteArray) (hb : b < 18446744073709551616) (hb' : b' < 18446744073709551616) (hl : l.length ≤ 100) (hl' : l'.length ≤ 100) (hs : s.size ≤ 150)
    (ho : okv k m b l = false) (w : World) (hv : Vars w) :
    Calls Tryz.prog 4 #[vV k m b ⟨⟨l⟩⟩, vV k' m' b' ⟨⟨l'⟩⟩, .string s] w fun e w' => e = .returned (.bool true) ∧ Below w.heap.size w w' := by
  have mixed := mix
  have ea := fun w1 => alive w1
  have hlook := looks s hs
  have e11 := c11 k m b l hb (by omega)
  rw [ho] at e11
  have e11 : ∀ w, Calls Tryz.prog 11 #[vV k m b ⟨⟨l⟩⟩] w fun e w' => e = .returned (.int .i64 8) ∧ Below w.heap.size w w' := e11
  have hls : (⟨⟨l⟩⟩ : ByteArray).size ≤ 100 := hl
  have hls' : (⟨⟨l'⟩⟩ : ByteArray).size ≤ 100 := hl'
  unfold vV at *
  generalize (⟨⟨l⟩⟩ : ByteArray) = t at *
  generalize (⟨⟨l'⟩⟩ : ByteArray) = t' at *
  have hlI : decide ((t.size : Int) > 100) = false := decide_eq_false (by omega)
  have hlI' : decide ((t'.size : Int) > 100) = false := decide_eq_false (by omega)
  have hsI : decide ((s.size : Int) > 150) = false := decide_eq_false (by omega)
  have hb0 := ((Below.refl _ w).alloc (Nat.le_refl _) (.cells #[.int .u8 k, .int .i64 m, .int .u64 b, .string t] 24)).alloc (by simp) (.cells #[.int .u8 k', .int .i64 m', .int .u64 b', .string t'] 24)
  go_enter Tryz.func4, Tryz.ntmps4
  go_wp2_with (go_at_call 10; refine (ea _ (hv.below hb0)).mono ?_)
  first | rintro e w1 rfl hb1 | rintro e w1 ⟨rfl, hb1⟩
  obtain ⟨g1, g2⟩ := two (w := w) (by simpa using hb1)
  have hbw := hb0.trans (hb1.mono (by first | omega | (simp; omega) | simp))
  obtain ⟨⟨a0, a1, a2, a3⟩, _, _, _, _⟩ := Tx.box4 g1
  obtain ⟨⟨d0, d1, d2, d3⟩, _, _, _, _⟩ := Tx.box4 g2
  clear hb0 hb1
  go_wp2_with (go_at_call 11; refine (e11 _).mono ?_)
  first | rintro e w2 rfl hb2 | rintro e w2 ⟨rfl, hb2⟩
  have hbw2 := hbw.trans (hb2.mono hbw.size)
  clear a0 a1 a2 a3 d0 d1 d2 d3 g1 g2 hb2 hbw
  rcases hlook with e8 | ⟨K, M, B, X, e8, e6s, e12⟩
  · go_wp2_with (go_at_call 8; refine (e8 _ (hv.below hbw2)).mono ?_)
    first | rintro e y3 rfl x3 | rintro e y3 ⟨rfl, x3⟩
    have x3 := hbw2.trans (x3.mono hbw2.size)
    go_wp2
    go_ret
    exact ⟨rfl, x3.alloc x3.size _⟩
  · go_wp2_with (go_at_call 8; refine (e8 _ (hv.below hbw2)).mono ?_)
    first | rintro e y3 rfl x3 | rintro e y3 ⟨rfl, x3⟩
    have x3 := (hbw2.trans (x3.mono hbw2.size))
    have x4 := x3.alloc x3.size (.cells #[.int .u8 K, .int .i64 M, .int .u64 B, .string X] 24)
    go_wp2_with (go_at_call 6; refine (e6s _ (hv.below x4)).mono ?_)
    first | rintro e y4 rfl x5 | rintro e y4 ⟨rfl, x5⟩
    have z4 : y4.heap[y3.heap.size]? = some (.cells #[.int .u8 K, .int .i64 M, .int .u64 B, .string X] 24 (0, 0)) := (x5.block _ (by simp)).trans (Tx.heap_new _ _)
    have x5 := x4.trans (x5.mono x4.size)
    obtain ⟨⟨p0, p1, p2, p3⟩, _, _, _, _⟩ := Tx.box4 z4
    go_wp2_with (go_at_call 12; refine (e12 _).mono ?_)
    first | rintro e y5 rfl x6 | rintro e y5 ⟨rfl, x6⟩
    have x6 := x5.trans (x6.mono x5.size)
    go_wp2
    go_ret
    exact ⟨rfl, x6⟩
set_option maxHeartbeats 1600000 in
theorem two_bad (k m : Int) (b : Nat) (l : List UInt8) (k' m' : Int) (b' : Nat) (l' : List UInt8) (s : ByteArray) (hb : b < 18446744073709551616) (hb' : b' < 18446744073709551616) (hl : l.length ≤ 100) (hl' : l'.length ≤ 100) (hs : s.size ≤ 150)
    (ho : okv k m b l = true) (ho' : okv k' m' b' l' = false) (w : World) (hv : Vars w) :
    Calls Tryz.prog 4 #[vV k m b ⟨⟨l⟩⟩, vV k' m' b' ⟨⟨l'⟩⟩, .string s] w fun e w' => e = .returned (.bool true) ∧ Below w.heap.size w w' := by
  have mixed := mix
  have ea := fun w1 => alive w1
  have hlook := looks s hs
  have e11 := c11 k m b l hb (by omega)
  rw [ho] at e11
  have e11 : ∀ w, Calls Tryz.prog 11 #[vV k m b ⟨⟨l⟩⟩] w fun e w' => e = .returned (.int .i64 0) ∧ Below w.heap.size w w' := e11
  have f11 := c11 k' m' b' l' hb' (by omega)
  rw [ho'] at f11
  have f11 : ∀ w, Calls Tryz.prog 11 #[vV k' m' b' ⟨⟨l'⟩⟩] w fun e w' => e = .returned (.int .i64 8) ∧ Below w.heap.size w w' := f11
  have hls : (⟨⟨l⟩⟩ : ByteArray).size ≤ 100 := hl
  have hls' : (⟨⟨l'⟩⟩ : ByteArray).size ≤ 100 := hl'
  unfold vV at *
  generalize (⟨⟨l⟩⟩ : ByteArray) = t at *
  generalize (⟨⟨l'⟩⟩ : ByteArray) = t' at *
  have hlI : decide ((t.size : Int) > 100) = false := decide_eq_false (by omega)
  have hlI' : decide ((t'.size : Int) > 100) = false := decide_eq_false (by omega)
  have hsI : decide ((s.size : Int) > 150) = false := decide_eq_false (by omega)
  have hb0 := ((Below.refl _ w).alloc (Nat.le_refl _) (.cells #[.int .u8 k, .int .i64 m, .int .u64 b, .string t] 24)).alloc (by simp) (.cells #[.int .u8 k', .int .i64 m', .int .u64 b', .string t'] 24)
  go_enter Tryz.func4, Tryz.ntmps4
  go_wp2_with (go_at_call 10; refine (ea _ (hv.below hb0)).mono ?_)
  first | rintro e w1 rfl hb1 | rintro e w1 ⟨rfl, hb1⟩
  obtain ⟨g1, g2⟩ := two (w := w) (by simpa using hb1)
  have hbw := hb0.trans (hb1.mono (by first | omega | (simp; omega) | simp))
  obtain ⟨⟨a0, a1, a2, a3⟩, _, _, _, _⟩ := Tx.box4 g1
  obtain ⟨⟨d0, d1, d2, d3⟩, _, _, _, _⟩ := Tx.box4 g2
  clear hb0 hb1
  go_wp2_with (go_at_call 11; refine (e11 _).mono ?_)
  first | rintro e w2 rfl hb2 | rintro e w2 ⟨rfl, hb2⟩
  have hbw2 := hbw.trans (hb2.mono hbw.size)
  have g3 := (hb2.block _ (lt_heap g2)).trans g2
  clear a0 a1 a2 a3 d0 d1 d2 d3 g1 g2 hb2 hbw
  obtain ⟨⟨d0, d1, d2, d3⟩, _, _, _, _⟩ := Tx.box4 g3
  go_wp2_with (go_at_call 11; refine (f11 _).mono ?_)
  first | rintro e w3 rfl hb3 | rintro e w3 ⟨rfl, hb3⟩
  have hbw3 := hbw2.trans (hb3.mono hbw2.size)
  clear d0 d1 d2 d3 g3 hb3 hbw2
  rcases hlook with e8 | ⟨K, M, B, X, e8, e6s, e12⟩
  · go_wp2_with (go_at_call 8; refine (e8 _ (hv.below hbw3)).mono ?_)
    first | rintro e y3 rfl x3 | rintro e y3 ⟨rfl, x3⟩
    have x3 := hbw3.trans (x3.mono hbw3.size)
    go_wp2
    go_ret
    exact ⟨rfl, x3.alloc x3.size _⟩
  · go_wp2_with (go_at_call 8; refine (e8 _ (hv.below hbw3)).mono ?_)
    first | rintro e y3 rfl x3 | rintro e y3 ⟨rfl, x3⟩
    have x3 := (hbw3.trans (x3.mono hbw3.size))
    have x4 := x3.alloc x3.size (.cells #[.int .u8 K, .int .i64 M, .int .u64 B, .string X] 24)
    go_wp2_with (go_at_call 6; refine (e6s _ (hv.below x4)).mono ?_)
    first | rintro e y4 rfl x5 | rintro e y4 ⟨rfl, x5⟩
    have z4 : y4.heap[y3.heap.size]? = some (.cells #[.int .u8 K, .int .i64 M, .int .u64 B, .string X] 24 (0, 0)) := (x5.block _ (by simp)).trans (Tx.heap_new _ _)
    have x5 := x4.trans (x5.mono x4.size)
    obtain ⟨⟨p0, p1, p2, p3⟩, _, _, _, _⟩ := Tx.box4 z4
    go_wp2_with (go_at_call 12; refine (e12 _).mono ?_)
    first | rintro e y5 rfl x6 | rintro e y5 ⟨rfl, x6⟩
    have x6 := x5.trans (x6.mono x5.size)
    go_wp2
    go_ret
    exact ⟨rfl, x6⟩
end La
end Go.Proofs.YtdmpneafeadbbaaGreatDoor
