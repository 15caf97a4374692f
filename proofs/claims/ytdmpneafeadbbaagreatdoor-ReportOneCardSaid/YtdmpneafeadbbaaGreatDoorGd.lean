/- Texts of this claim, joined: each says ahead what it shows. Conditions: those of each contract. -/
import Derived.Test.YtdmpneafeadbbaaGreatDoorGc
import Derived.Deep.DeepCutAuto
import Derived.Deep.RegionLaw
import Derived.Laws.CopyOwn
import Derived.BigQuiet
import Derived.Deep.QuietTactic
import Derived.WalkSpells
set_option linter.unusedSimpArgs false
/- (*strings.byteStringReplacer).Replace at the replacer that escapes. Conditions: those of each contract. -/
set_option maxRecDepth 100000
set_option linter.unusedVariables false
namespace Go.Proofs.YtdmpneafeadbbaaGreatDoor
open Go Go.Abs Go.RowKit
namespace Es
/-- is it written otherwise? -/
def sp (c : UInt8) : Bool := c == 32 || c == 92
def esc1 (c : UInt8) : List UInt8 := if c = 32 then [92, 115] else if c = 92 then [92, 92] else [c]
def esc (l : List UInt8) : List UInt8 := l.flatMap esc1
def cnt (l : List UInt8) : Nat := l.count 92 + l.count 32
theorem esc_append (a b : List UInt8) : esc (a ++ b) = esc a ++ esc b := by simp [esc]
theorem cnt_append (a b : List UInt8) : cnt (a ++ b) = cnt a + cnt b := by simp [cnt, List.count_append]; omega
theorem cnt_one (c : UInt8) : cnt [c] = if c = 32 ∨ c = 92 then 1 else 0 := by
  unfold cnt
  by_cases h : c = 92
  · subst h; rfl
  · by_cases h2 : c = 32
    · subst h2; rfl
    · rw [List.count_singleton, List.count_singleton]
      simp [h, h2]
theorem esc1_length (c : UInt8) : (esc1 c).length = 1 + cnt [c] := by
  rw [cnt_one]
  unfold esc1
  by_cases h : c = 32
  · simp [h]
  · by_cases h2 : c = 92 <;> simp [h, h2]
theorem esc_length (l : List UInt8) : (esc l).length = l.length + cnt l := by
  induction l with
  | nil => rfl
  | cons c l ih =>
    have : c :: l = [c] ++ l := rfl
    rw [this, esc_append, cnt_append, List.length_append, List.length_append, ih]
    have : esc [c] = esc1 c := by simp [esc]
    rw [this, esc1_length]
    simp
    omega
theorem cnt_le (l : List UInt8) : cnt l ≤ l.length := by
  induction l with
  | nil => exact Nat.le_refl _
  | cons c l ih =>
    have : c :: l = [c] ++ l := rfl
    rw [this, cnt_append, List.length_append, cnt_one]
    simp only [List.length_singleton]
    split <;> omega
theorem esc_same (l : List UInt8) (h : cnt l = 0) : esc l = l := by
  induction l with
  | nil => rfl
  | cons c l ih =>
    have e : c :: l = [c] ++ l := rfl
    rw [e, cnt_append] at h
    have h1 : cnt [c] = 0 := by omega
    rw [cnt_one] at h1
    rw [e, esc_append, ih (by omega)]
    have : esc [c] = esc1 c := by simp [esc]
    rw [this]
    unfold esc1
    by_cases g : c = 32
    · simp [g] at h1
    · by_cases g2 : c = 92
      · simp [g2] at h1
      · simp [g, g2]
theorem take_succ (s : ByteArray) (k : Nat) (h : k < s.size) : s.data.toList.take (k + 1) = s.data.toList.take k ++ [s[k]] := by
  rw [List.take_succ_eq_append_getElem (by simpa using h)]; rfl
theorem below_drewN {B : Nat} {a w : World} (h : Below B a w) (q : Nat) : Below B a (w.drewN q) := ⟨h.os, h.tape, h.output, h.size, h.block⟩
theorem ba_self (s : ByteArray) : (⟨s.data.toList.toArray⟩ : ByteArray) = s := by
  cases s
  simp
theorem set_heap {w : World} {g j : Nat} {cur : List Value} {T : TypeId} {fz : Nat × Nat} (v : Value) (h : w.heap[g]? = some (.cells cur.toArray T fz)) : (w.setCell ⟨g, j, none⟩ v).heap[g]? = some (.cells (cur.set j v).toArray T fz) := by
  simp [World.setCell, Array.getElem?_modify, h]
theorem esc_step (s : ByteArray) (k : Nat) (h : k < s.size) : esc (s.data.toList.take (k + 1)) = esc (s.data.toList.take k) ++ esc1 s[k] := by
  rw [take_succ s k h, esc_append]
  simp [esc]
theorem esc_fits (s : ByteArray) (k : Nat) (h : k < s.size) : (esc (s.data.toList.take k)).length + (esc1 s[k]).length ≤ (esc s.data.toList).length := by
  have h1 := esc_step s k h
  have h2 : esc s.data.toList = esc (s.data.toList.take (k + 1)) ++ esc (s.data.toList.drop (k + 1)) := by rw [← esc_append, List.take_append_drop]
  rw [h2, h1]
  simp
theorem take_set (cur : List Value) (j : Nat) (v : Value) (bs : List Value) (hj : j < cur.length) (h : cur.take j = bs) : (cur.set j v).take (j + 1) = bs ++ [v] := by
  rw [List.take_succ_eq_append_getElem (by simpa using hj), List.take_set_of_le (Nat.le_refl _), h]
  simp
theorem take_splice (cur : List Value) (j : Nat) (vs bs : List Value) (hj : j + vs.length ≤ cur.length) (h : cur.take j = bs) : (Go.splice cur j vs).take (j + vs.length) = bs ++ vs := by
  unfold Go.splice
  rw [h, ← List.append_assoc]
  have : (bs ++ vs).length = j + vs.length := by
    rw [List.length_append, ← h, List.length_take]; omega
  rw [← this, List.take_left']
  rfl
theorem two_cells {w : World} {a : Addr} {x y : Value} (hs : a.spot = none) (h0 : w.cell? ⟨a.block, a.off, none⟩ = some x) (h1 : w.cell? ⟨a.block, a.off + 1, none⟩ = some y) : ∀ (j : Nat) (v : Value), [x, y][j]? = some v → w.drew.cell? (a.add j) = some v := by
  obtain ⟨b, o, s⟩ := a
  simp only at hs
  subst hs
  intro j v hv
  match j, hv with
  | 0, hv => cases hv; exact h0
  | 1, hv => cases hv; exact h1
def CntIs (s : ByteArray) (w : World) (s5 s6 : Value) (wx : World) : Prop := ∃ q, s5 = .int .i64 ((s.size : Int) + cnt s.data.toList) ∧ s6 = .bool (decide (cnt s.data.toList ≠ 0)) ∧ wx = w.drewN q
set_option maxHeartbeats 4000000 in
theorem replace (s : ByteArray) (w : World) (N B x : Nat) (a1 a2 a3 : Addr) (k1 k2 k3 : Nat) (hF : Re.Facts w N B x a1 a2 a3 k1 k2 k3) (hs : s.size ≤ 1000) :
    Calls Tryz.prog 203 #[.pointer (some ⟨B, x, none⟩), .string s] w fun e w' => e = .returned (.string ⟨(esc s.data.toList).toArray⟩) ∧ Below w.heap.size w w' := by
  have mixed := mix
  have hlist := hF.list
  have h30 := hF.b3.1
  have h31 := hF.b3.2
  obtain ⟨b3, o3, p3⟩ := a3
  obtain rfl : p3 = none := hF.spots.2.2
  have HF := Lib.hid hF
  clear hF
  go_enter Tryz.func203, Tryz.ntmps203
  go_upto_if 26 with fail
  go_cut [5, 6] (fun s5 s6 wx => CntIs s w s5 s6 wx)
  case first =>
    have hc1 := List.count_le_length (a := (92 : UInt8)) (l := s.data.toList)
    have hc2 := List.count_le_length (a := (32 : UInt8)) (l := s.data.toList)
    have hlen : s.data.toList.length = s.size := rfl
    rw [hlen] at hc1 hc2
    have hN1 := Tryz.strings_Count_one s 92
    have hN2 := Tryz.strings_Count_one s 32
    have e1 : Lib.countByte s.data.toList 92 = ((s.data.toList.count 92 : Nat) : Int) := rfl
    have e2 : Lib.countByte s.data.toList 32 = ((s.data.toList.count 32 : Nat) : Int) := rfl
    rw [e1] at hN1
    rw [e2] at hN2
    clear e1 e2 hlen
    obtain ⟨n1, q1⟩ : ∃ n, n = s.data.toList.count 92 := ⟨_, rfl⟩
    obtain ⟨n2, q2⟩ : ∃ n, n = s.data.toList.count 32 := ⟨_, rfl⟩
    rw [← q1] at hN1 hc1
    rw [← q2] at hN2 hc2
    have HQ := Lib.hid (And.intro q1 q2)
    clear q1 q2
    by_cases h16 : 16 ≤ s.size
    · go_wp2_with fail
      go_loopw [5, 6, 32] (fun v5 v6 v32 wr => ∃ (k m q : Nat), v32 = .int .i64 k ∧ v5 = .int .i64 ((s.size : Int) + m) ∧ v6 = .bool (decide (m ≠ 0)) ∧ wr = w.drewN q ∧ ((k = 0 ∧ m = 0) ∨ (k = 1 ∧ m = n1) ∨ (k = 2 ∧ m = n1 + n2))) (fun _ _ v32 _ => 2 - (intOf v32).toNat)
      case atStart => exact ⟨0, 0, 0, rfl, by simp, rfl, rfl, .inl ⟨rfl, rfl⟩⟩
      case round =>
        obtain ⟨k, m, q, rfl, rfl, rfl, rfl, hk⟩ := hrel
        have hr92 : w.cell? ⟨B, x + 92, none⟩ = some (.slice (some a2) 2 k2) := HF.out.tab 92 (by decide)
        have hr32 : w.cell? ⟨B, x + 32, none⟩ = some (.slice (some a1) 2 k1) := HF.out.tab 32 (by decide)
        replace h30 : w.cell? ⟨b3, o3, none⟩ = some (.string ⟨#[92]⟩) := h30
        replace h31 : w.cell? ⟨b3, o3 + 1, none⟩ = some (.string ⟨#[32]⟩) := h31
        have d92 : ((⟨#[92]⟩ : ByteArray)[0]'(by decide)).toNat = 92 := rfl
        have d32 : ((⟨#[32]⟩ : ByteArray)[0]'(by decide)).toNat = 32 := rfl
        rcases hk with ⟨rfl, rfl⟩ | ⟨rfl, rfl⟩ | ⟨rfl, rfl⟩
        · by_cases hn : n1 = 0
          · subst hn
            go_wp2_with (go_at_call 117; refine (hN1 _).mono ?_; rintro e w' ⟨rfl, rfl⟩)
            exact ⟨⟨1, 0, q, rfl, by simp, rfl, rfl, .inr (.inl ⟨rfl, rfl⟩)⟩, by simp [intOf]⟩
          · have hb : ((n1 : Int) != 0) = true := by simpa using hn
            go_wp2_with (go_at_call 117; refine (hN1 _).mono ?_; rintro e w' ⟨rfl, rfl⟩)
            go_region
            go_wp2
            exact ⟨⟨1, n1, q + 1, rfl, rfl, by simp [hn], rfl, .inr (.inl ⟨rfl, rfl⟩)⟩, by simp [intOf]⟩
        · by_cases hn : n2 = 0
          · subst hn
            go_wp2_with (go_at_call 117; refine (hN2 _).mono ?_; rintro e w' ⟨rfl, rfl⟩)
            exact ⟨⟨2, m + 0, q, rfl, by simp, by simp, rfl, .inr (.inr ⟨rfl, rfl⟩)⟩, by simp [intOf]⟩
          · have hb : ((n2 : Int) != 0) = true := by simpa using hn
            go_wp2_with (go_at_call 117; refine (hN2 _).mono ?_; rintro e w' ⟨rfl, rfl⟩)
            go_region
            go_wp2
            exact ⟨⟨2, m + n2, q + 1, rfl, by push_cast; rw [Int.add_assoc], by simp [hn], rfl, .inr (.inr ⟨rfl, rfl⟩)⟩, by simp [intOf]⟩
        · go_wp2
          go_meet
          obtain ⟨q1, q2⟩ := HQ.out
          exact ⟨q, by unfold cnt; rw [← q1, ← q2], by unfold cnt; rw [← q1, ← q2], rfl⟩
    · clear hN1 hN2 hc1 hc2 HQ
      go_wp2_with fail
      go_loop [5, 6, 10] (fun v5 v6 v10 => ∃ k : Nat, k ≤ s.size ∧ v10 = .int .i64 k ∧ v5 = .int .i64 ((s.size : Int) + cnt (s.data.toList.take k)) ∧ v6 = .bool (decide (cnt (s.data.toList.take k) ≠ 0))) (fun _ _ v10 => s.size - (intOf v10).toNat)
      case atStart => exact ⟨0, Nat.zero_le _, rfl, by simp [cnt], by simp [cnt]⟩
      case round =>
        obtain ⟨k, hk, rfl, rfl, rfl⟩ := hrel
        by_cases hlt : k < s.size
        · have HT := Lib.hid (take_succ s k hlt)
          have hm := cnt_le (s.data.toList.take k)
          rw [List.length_take] at hm
          have hm2 : cnt (s.data.toList.take k) ≤ 1000 := by omega
          clear hm
          have htab := HF.out.tab (s[k]).toNat (s[k]).toNat_lt
          have h256 : (s[k]).toNat < 256 := (s[k]).toNat_lt
          have hn1 := fun n c => Go.run_neq_slice_nil_any w 61 5 (some a1) n c 0 0 Tryz.underlying61
          have hn2 := fun n c => Go.run_neq_slice_nil_any w 61 5 (some a2) n c 0 0 Tryz.underlying61
          have hn3 := fun n c => Go.run_neq_slice_nil_any w 61 5 none n c 0 0 Tryz.underlying61
          simp only [Option.isNone_some, Option.isNone_none, Bool.not_false, Bool.not_true] at hn1 hn2 hn3
          have h1 := cnt_one s[k]
          by_cases h32 : s[k] = 32
          · have e : Re.repV a1 a2 k1 k2 (s[k]).toNat = .slice (some a1) 2 k1 := by rw [h32]; rfl
            rw [e] at htab
            rw [if_pos (.inl h32)] at h1
            have H1 := Lib.hid h1
            clear h1 e h32
            go_wp2
            exact ⟨⟨k + 1, by omega, by go_num, by rw [HT.out, cnt_append, H1.out]; push_cast; rw [Int.add_assoc], by rw [HT.out, cnt_append, H1.out]; simp⟩, by simp [intOf]; omega⟩
          · by_cases h92 : s[k] = 92
            · have e : Re.repV a1 a2 k1 k2 (s[k]).toNat = .slice (some a2) 2 k2 := by rw [h92]; rfl
              rw [e] at htab
              rw [if_pos (.inr h92)] at h1
              have H1 := Lib.hid h1
              clear h1 e h92 h32
              go_wp2
              exact ⟨⟨k + 1, by omega, by go_num, by rw [HT.out, cnt_append, H1.out]; push_cast; rw [Int.add_assoc], by rw [HT.out, cnt_append, H1.out]; simp⟩, by simp [intOf]; omega⟩
            · have e : Re.repV a1 a2 k1 k2 (s[k]).toNat = .slice none 0 0 := by
                unfold Re.repV
                rw [if_neg (show ¬ (s[k]).toNat = 32 from fun h => h32 (UInt8.toNat_inj.1 h)), if_neg (show ¬ (s[k]).toNat = 92 from fun h => h92 (UInt8.toNat_inj.1 h))]
              rw [e] at htab
              rw [if_neg (by simp [h32, h92])] at h1
              have H1 := Lib.hid h1
              clear h1 e h92 h32
              go_wp2
              exact ⟨⟨k + 1, by omega, by go_num, by rw [HT.out, cnt_append, H1.out]; simp, by rw [HT.out, cnt_append, H1.out]; simp⟩, by simp [intOf]; omega⟩
        · have hkk : k = s.size := by omega
          subst hkk
          have hT : s.data.toList.take s.size = s.data.toList := List.take_of_length_le (Nat.le_refl _)
          rw [hT]
          clear hT
          go_wp2
          go_meet
          exact ⟨0, rfl, by simp, rfl⟩
  case rest =>
    obtain ⟨q, rfl, rfl, rfl⟩ := hcut
    by_cases hz : cnt s.data.toList = 0
    · have hd : decide (cnt s.data.toList ≠ 0) = false := by simp [hz]
      rw [hd]
      have HZ := Lib.hid hz
      clear hz hd
      go_wp2
      go_ret
      refine ⟨?_, below_drewN (Below.refl _ _) q⟩
      rw [esc_same _ HZ.out, ba_self]
      rfl
    · obtain ⟨i0, hi, hz0, hz1, hz2⟩ := info_parts Bu.infoByte
      have hm := cnt_le s.data.toList
      have hmm := esc_length s.data.toList
      have hsl : s.data.toList.length = s.size := rfl
      rw [hsl] at hm hmm
      have hzd : decide (cnt s.data.toList ≠ 0) = true := by simp [hz]
      rw [hzd]
      have hsum : ((s.size : Int) + cnt s.data.toList) = ((esc s.data.toList).length : Nat) := by rw [hmm]; push_cast; rfl
      rw [hsum]
      have hmb : (esc s.data.toList).length ≤ 2000 := by omega
      have HM := Lib.hid hmm
      clear hsum hzd hz hm hmm hsl
      obtain ⟨m, qm⟩ : ∃ m, m = (esc s.data.toList).length := ⟨_, rfl⟩
      rw [← qm] at hmb ⊢
      have HE := Lib.hid qm
      clear qm
      go_wp2_with (refine wpList_make_full _ rfl _ _ 61 rfl w.heap.size 5 i0 (.int .u8 0) 1 Tryz.underlying61 hi hz0 hz1 .i64 .i64 _ _ m rfl rfl rfl rfl ?b2 ?b3 ?b4 ?_)
      case b2 => omega
      case b3 => unfold maxLen; omega
      intro w1 hown hgrow
      have hw1 : Below w.heap.size w w1 := Below.grown (w := w.drewN q) (row := none) (below_drewN (Below.refl _ _) q) hgrow (Nat.le_refl _) (fun k hk => by cases hk)
      obtain ⟨cur, hcur, hcs⟩ : ∃ cur, w1.heap[w.heap.size]? = some (.cells cur 5 (0, 0)) ∧ cur.size = m := by
        rcases hown.2 with ⟨h, _⟩ | ⟨g, cap, cur, h1, _, h3, _, _, h6, _⟩
        · cases h
        · cases h1; exact ⟨cur, h3, by omega⟩
      clear hown hgrow hz2 hz1 hz0 hi
      have hbuf : ∃ cur : List Value, w1.heap[w.heap.size]? = some (.cells cur.toArray 5 (0, 0)) ∧ cur.length = m ∧ cur.take 0 = [] := ⟨cur.toList, by simpa using hcur, by simpa using hcs, rfl⟩
      clear hcur hcs cur
      go_wp2
      go_loopw [13, 14] (fun v13 v14 wr => ∃ k : Nat, k ≤ s.size ∧ v14 = .int .i64 k ∧ v13 = .int .i64 ((esc (s.data.toList.take k)).length : Nat) ∧ Below w.heap.size w wr ∧ ∃ cur : List Value, wr.heap[w.heap.size]? = some (.cells cur.toArray 5 (0, 0)) ∧ cur.length = m ∧ cur.take (esc (s.data.toList.take k)).length = Lib.byteCells (esc (s.data.toList.take k)))
        (fun _ v14 _ => s.size - (intOf v14).toNat)
      case atStart =>
        obtain ⟨cur, h1, h2, h3⟩ := hbuf
        exact ⟨0, Nat.zero_le _, rfl, rfl, hw1, cur, h1, h2, rfl⟩
      case round =>
        clear hbuf hw1
        obtain ⟨k, hk, rfl, rfl, hwr, cur, hb, hcl, htk⟩ := hrel
        by_cases hlt : k < s.size
        · have hfit := esc_fits s k hlt
          rw [← HE.out] at hfit
          have HS := Lib.hid (esc_step s k hlt)
          have hj1 : (esc (s.data.toList.take k)).length ≤ 2000 := by omega
          obtain ⟨j, qj⟩ : ∃ j, j = (esc (s.data.toList.take k)).length := ⟨_, rfl⟩
          rw [← qj] at hfit hj1 htk ⊢
          have HJ := Lib.hid qj
          clear qj
          have h256 : (s[k]).toNat < 256 := (s[k]).toNat_lt
          have htab : wr.cell? ⟨B, x + (s[k]).toNat, none⟩ = some (Re.repV a1 a2 k1 k2 (s[k]).toNat) := by rw [hwr.cell HF.out.lt.1]; exact HF.out.tab (s[k]).toNat h256
          by_cases h32 : s[k] = 32
          · have e : Re.repV a1 a2 k1 k2 (s[k]).toNat = .slice (some a1) 2 k1 := by rw [h32]; rfl
            rw [e] at htab
            have e1 : esc1 s[k] = [92, 115] := by unfold esc1; rw [if_pos h32]
            rw [e1] at hfit
            have H1 := Lib.hid e1
            clear e1 e h32
            simp only [List.length_cons, List.length_nil] at hfit
            have hn3 := fun n c => Go.run_neq_slice_nil_any wr 61 5 (some a1) n c 0 0 Tryz.underlying61
            simp only [Option.isNone_some, Bool.not_false] at hn3
            have hx0 : wr.cell? ⟨a1.block, a1.off, none⟩ = some (.int .u8 92) := (hwr.cell (p := ⟨a1.block, a1.off, none⟩) HF.out.lt.2.1).trans HF.out.b1.1
            have hx1 : wr.cell? ⟨a1.block, a1.off + 1, none⟩ = some (.int .u8 115) := (hwr.cell (p := ⟨a1.block, a1.off + 1, none⟩) HF.out.lt.2.1).trans HF.out.b1.2
            have hcopy := Lib.hid (two_cells HF.out.spots.1 hx0 hx1)
            have hmin := Lib.hid (show [Value.int IntKind.u8 92, Value.int IntKind.u8 115].length = Nat.min 2 (m - j) from (Nat.min_eq_left (show 2 ≤ m - j by omega)).symm)
            have hfit2 := Lib.hid (show j + [Value.int IntKind.u8 92, Value.int IntKind.u8 115].length ≤ cur.length by show j + 2 ≤ cur.length; omega)
            have hone := Lib.hid (show ∀ v ∈ [Value.int IntKind.u8 92, Value.int IntKind.u8 115], v.oneCell' = true by intro v hv; simp at hv; rcases hv with rfl | rfl <;> rfl)
            have hne : ¬ m = j := by omega
            have hI : ((s[k]).toNat : Int) < 256 := by omega
            have hle : j ≤ m := by omega
            have HB := Lib.hid (And.intro hb (And.intro hcl htk))
            have hwd := Lib.hid (below_drewN hwr 1)
            clear hb hcl htk
            go_wp2
            go_region_law ((refine step_copy_splice rfl (.tmp 105) (.tmp 111) 61 61 rfl 5 Tryz.underlying61 (by kernel_rfl) (some ⟨w.heap.size, j, none⟩) (some a1) (m - j) (m - j) 2 k1 (by simp [Act.eval, Act.put]) (by simp [Act.eval, Act.put]) w.heap.size j cur 5 HB.out.1 [.int .u8 92, .int .u8 115] hmin.out (fun _ => ⟨rfl, a1, rfl, hcopy.out⟩) hfit2.out hone.out w.heap.size w hwd.out (Nat.le_refl _) ?_); intro w2 hb2 hw2)
            go_wp2
            obtain ⟨hb, hcl, htk⟩ := HB.out
            have hlen : (esc (s.data.toList.take (k + 1))).length = j + 2 := by rw [HS.out, List.length_append, ← HJ.out, H1.out]; rfl
            have hts := take_splice cur j [.int .u8 92, .int .u8 115] _ hfit2.out htk
            refine ⟨⟨k + 1, by omega, by go_num, by rw [hlen]; push_cast; rfl, hw2, _, hb2.out, by rw [Go.length_splice _ _ _ hfit2.out]; exact hcl, ?_⟩, by simp [intOf]; omega⟩
            rw [hlen, HS.out, H1.out]
            refine hts.trans ?_
            simp [Lib.byteCells]
          · by_cases h92 : s[k] = 92
            · have e : Re.repV a1 a2 k1 k2 (s[k]).toNat = .slice (some a2) 2 k2 := by rw [h92]; rfl
              rw [e] at htab
              have e1 : esc1 s[k] = [92, 92] := by unfold esc1; rw [if_neg h32, if_pos h92]
              rw [e1] at hfit
              have H1 := Lib.hid e1
              clear e1 e h92 h32
              simp only [List.length_cons, List.length_nil] at hfit
              have hn3 := fun n c => Go.run_neq_slice_nil_any wr 61 5 (some a2) n c 0 0 Tryz.underlying61
              simp only [Option.isNone_some, Bool.not_false] at hn3
              have hx0 : wr.cell? ⟨a2.block, a2.off, none⟩ = some (.int .u8 92) := (hwr.cell (p := ⟨a2.block, a2.off, none⟩) HF.out.lt.2.2.1).trans HF.out.b2.1
              have hx1 : wr.cell? ⟨a2.block, a2.off + 1, none⟩ = some (.int .u8 92) := (hwr.cell (p := ⟨a2.block, a2.off + 1, none⟩) HF.out.lt.2.2.1).trans HF.out.b2.2
              have hcopy := Lib.hid (two_cells HF.out.spots.2.1 hx0 hx1)
              have hmin := Lib.hid (show [Value.int IntKind.u8 92, Value.int IntKind.u8 92].length = Nat.min 2 (m - j) from (Nat.min_eq_left (show 2 ≤ m - j by omega)).symm)
              have hfit2 := Lib.hid (show j + [Value.int IntKind.u8 92, Value.int IntKind.u8 92].length ≤ cur.length by show j + 2 ≤ cur.length; omega)
              have hone := Lib.hid (show ∀ v ∈ [Value.int IntKind.u8 92, Value.int IntKind.u8 92], v.oneCell' = true by intro v hv; simp at hv; rcases hv with rfl | rfl <;> rfl)
              have hne : ¬ m = j := by omega
              have hI : ((s[k]).toNat : Int) < 256 := by omega
              have hle : j ≤ m := by omega
              have HB := Lib.hid (And.intro hb (And.intro hcl htk))
              have hwd := Lib.hid (below_drewN hwr 1)
              clear hb hcl htk
              go_wp2
              go_region_law ((refine step_copy_splice rfl (.tmp 105) (.tmp 111) 61 61 rfl 5 Tryz.underlying61 (by kernel_rfl) (some ⟨w.heap.size, j, none⟩) (some a2) (m - j) (m - j) 2 k2 (by simp [Act.eval, Act.put]) (by simp [Act.eval, Act.put]) w.heap.size j cur 5 HB.out.1 [.int .u8 92, .int .u8 92] hmin.out (fun _ => ⟨rfl, a2, rfl, hcopy.out⟩) hfit2.out hone.out w.heap.size w hwd.out (Nat.le_refl _) ?_); intro w2 hb2 hw2)
              go_wp2
              obtain ⟨hb, hcl, htk⟩ := HB.out
              have hlen : (esc (s.data.toList.take (k + 1))).length = j + 2 := by rw [HS.out, List.length_append, ← HJ.out, H1.out]; rfl
              have hts := take_splice cur j [.int .u8 92, .int .u8 92] _ hfit2.out htk
              refine ⟨⟨k + 1, by omega, by go_num, by rw [hlen]; push_cast; rfl, hw2, _, hb2.out, by rw [Go.length_splice _ _ _ hfit2.out]; exact hcl, ?_⟩, by simp [intOf]; omega⟩
              rw [hlen, HS.out, H1.out]
              refine hts.trans ?_
              simp [Lib.byteCells]
            · have e : Re.repV a1 a2 k1 k2 (s[k]).toNat = .slice none 0 0 := by
                unfold Re.repV
                rw [if_neg (show ¬ (s[k]).toNat = 32 from fun h => h32 (UInt8.toNat_inj.1 h)), if_neg (show ¬ (s[k]).toNat = 92 from fun h => h92 (UInt8.toNat_inj.1 h))]
              rw [e] at htab
              have e1 : esc1 s[k] = [s[k]] := by unfold esc1; rw [if_neg h32, if_neg h92]
              rw [e1] at hfit
              have H1 := Lib.hid e1
              clear e1 e h92 h32
              simp only [List.length_singleton] at hfit
              have hn3 := fun n c => Go.run_neq_slice_nil_any wr 61 5 none n c 0 0 Tryz.underlying61
              simp only [Option.isNone_none, Bool.not_true] at hn3
              obtain ⟨v0, hcell⟩ : ∃ v0, wr.cell? ⟨w.heap.size, j, none⟩ = some v0 := by
                refine ⟨cur[j]'(by omega), ?_⟩
                rw [Lib.cell_of_heap hb]
                simp [List.getElem?_eq_getElem (show j < cur.length by omega)]
              have hfz : wr.frozen? ⟨w.heap.size, j, none⟩ = false := Lib.frozen_of_heap hb j
              have HB := Lib.hid (And.intro hb (And.intro hcl htk))
              clear hb hcl htk
              go_wp2
              obtain ⟨hb, hcl, htk⟩ := HB.out
              have hlen : (esc (s.data.toList.take (k + 1))).length = j + 1 := by rw [HS.out, List.length_append, ← HJ.out, H1.out]; rfl
              refine ⟨⟨k + 1, by omega, by go_num, by rw [hlen]; push_cast; rfl, hwr.setCell (p := ⟨w.heap.size, j, none⟩) (Nat.le_refl _) _, cur.set j (.int .u8 (s[k]).toNat), set_heap _ hb, by rw [List.length_set]; exact hcl, ?_⟩, by simp [intOf]; omega⟩
              rw [hlen, take_set cur j _ _ (by omega) htk, HS.out, H1.out]
              simp [Lib.byteCells]
        · have hkk : k = s.size := by omega
          subst hkk
          have hT : s.data.toList.take s.size = s.data.toList := List.take_of_length_le (Nat.le_refl _)
          rw [hT] at htk ⊢
          have hmE := HE.out
          rw [← hmE] at htk ⊢
          have hcur : cur = Lib.byteCells (esc s.data.toList) := by rw [← htk, List.take_of_length_le (by omega)]
          have hcells : ∀ (jj : Nat) (hj : jj < (esc s.data.toList).length), wr.cell? ((⟨w.heap.size, 0, none⟩ : Addr).add jj) = some (.int .u8 ((esc s.data.toList)[jj].toNat : Int)) := fun jj hj => by
            have ha : (⟨w.heap.size, 0, none⟩ : Addr).add jj = ⟨w.heap.size, jj, none⟩ := by
              cases jj with
              | zero => rfl
              | succ j => simp [Addr.add]
            rw [ha, Lib.cell_of_heap hb, hcur]
            simp [Lib.byteCells, List.getElem?_map, List.getElem?_eq_getElem hj]
          have hconv := run_convert_bytes_back (P := Tryz.prog) wr 61 9 5 ⟨w.heap.size, 0, none⟩ m (esc s.data.toList) Tryz.underlying61 Tryz.underlying5 Tryz.underlying9 hcells
          rw [← hmE] at hconv
          clear hcells hcur hT htk hcl hb hmE
          go_wp2
          go_ret
          exact ⟨rfl, hwr⟩
end Es
end Go.Proofs.YtdmpneafeadbbaaGreatDoor
/- The escaping replacer, as a whole. Conditions: those of each contract. -/
set_option maxRecDepth 100000
set_option linter.unusedVariables false
namespace Go.Proofs.YtdmpneafeadbbaaGreatDoor
open Go Go.Abs Go.RowKit
namespace Er
/-- a cell in another block is as it was, behind the two last stores of sync.Once -/
theorem after_cell {w1 : World} {N : Nat} {p : Addr} {v : Value} (hp : p.block ≠ N ∨ 2 ≤ p.off) (h : w1.cell? p = some v) : ((w1.drew.setCell ⟨N, 0, none⟩ (.int .u32 1)).setCell ⟨N, 0 + 1, none⟩ (.int .i32 0)).cell? p = some v := by
  rw [World.cell?_setCell_other _ ⟨N, 0 + 1, none⟩ p _ (fun h => ?_), World.cell?_setCell_other _ ⟨N, 0, none⟩ p _ (fun h => ?_), World.cell?_drew]
  · exact h
  · subst h
    rcases hp with h | h
    · exact h rfl
    · exact absurd (show 2 ≤ 0 from h) (by decide)
  · subst h
    rcases hp with h | h
    · exact h rfl
    · exact absurd (show 2 ≤ 0 + 1 from h) (by decide)
theorem facts_after {w1 : World} {N B x : Nat} {a1 a2 a3 : Addr} {c1 c2 c3 : Nat} (h : Re.Facts w1 N B x a1 a2 a3 c1 c2 c3) : Re.Facts ((w1.drew.setCell ⟨N, 0, none⟩ (.int .u32 1)).setCell ⟨N, 0 + 1, none⟩ (.int .i32 0)) N B x a1 a2 a3 c1 c2 c3 where
  r := after_cell (.inr (show 2 ≤ 3 by decide)) h.r
  tab := fun b hb => after_cell (.inl h.ne.1) (h.tab b hb)
  list := after_cell (.inl h.ne.1) h.list
  b1 := ⟨after_cell (.inl h.ne.2.1) h.b1.1, after_cell (.inl h.ne.2.1) h.b1.2⟩
  b2 := ⟨after_cell (.inl h.ne.2.2.1) h.b2.1, after_cell (.inl h.ne.2.2.1) h.b2.2⟩
  b3 := ⟨after_cell (.inl h.ne.2.2.2) h.b3.1, after_cell (.inl h.ne.2.2.2) h.b3.2⟩
  spots := h.spots
  caps := h.caps
  ne := h.ne
  lt := by simpa [World.setCell] using h.lt
/-- what a new replacer gives to sync.Once -/
theorem once {xs : List Value} {sF : ASt} (hx : xs.length = 4) (hs : ∀ v ∈ xs, onePl v = true) (hrun : callN Tb.T 300 12 62 [.pointer (some ⟨0, 0, none⟩)] (Rb.st0 xs) = some (.tuple ⟨[]⟩, sF)) (hn : 2 ≤ sF.next) (hheld : ∀ {w w1 : World} {N M : Nat}, Rb.Made sF w N M w1 → On.Held N 0 w1)
    {w0 w : World} {N : Nat} (h : Nr.New xs w0 N w) :
    Calls Tryz.prog 61 #[.pointer (some ⟨N, 0, none⟩), .func (.func 62) #[.pointer (some ⟨N, 0, none⟩)] #[]] w fun e w' => e = .returned (.tuple #[]) ∧
      ∃ w1 M, Rb.Made sF (w.setCell ⟨N, 0 + 1, none⟩ (.int .i32 1)) N M w1 ∧ w' = (w1.drew.setCell ⟨N, 0, none⟩ (.int .u32 1)).setCell ⟨N, 0 + 1, none⟩ (.int .i32 0) ∧ Below w0.heap.size w0 w1 ∧ w0.heap.size ≤ N := by
  obtain ⟨M, cap, cur, hN, hM, hsz, hcap, htk, hne, hlN, hlM, hb⟩ := h
  have hN1 : (w.setCell ⟨N, 0 + 1, none⟩ (.int .i32 1)).heap[N]? = some (.cells #[.int .u32 0, .int .i32 1, .int .u32 0, .nilIface, .slice (some ⟨M, 0, none⟩) 4 cap] 132 (0, 0)) := by
    simp [World.setCell, Array.getElem?_modify, hN]
  have hM1 : (w.setCell ⟨N, 0 + 1, none⟩ (.int .i32 1)).heap[M]? = some (.cells cur 9 (0, 0)) := by
    rw [Below.heap_setCell _ _ _ _ (fun e => hne e.symm)]; exact hM
  have hf := Rb.once_run hx hs hrun hn hN1 hM1 hsz hcap htk hne
  have c0 : w.cell? ⟨N, 0, none⟩ = some (.int .u32 0) := by rw [Lib.cell_of_heap hN]; rfl
  have c1 : w.cell? ⟨N, 0 + 1, none⟩ = some (.int .i32 0) := by rw [Lib.cell_of_heap hN]; rfl
  refine (On.do_first N 0 w (Rb.Made sF (w.setCell ⟨N, 0 + 1, none⟩ (.int .i32 1)) N M) c0 c1 (Lib.frozen_of_heap hN 0) (Lib.frozen_of_heap hN 1) (fun w1 h => hheld h) hf).mono fun e w' ⟨h1, w1, h2, h3⟩ => ⟨h1, w1, M, h2, h3, ?_, hlN⟩
  obtain ⟨π, δ, D, H, _, _, ⟨g1, g2, g3, g4⟩, g5⟩ := h2
  have hsz2 : (w.setCell ⟨N, 0 + 1, none⟩ (.int .i32 1)).heap.size = w.heap.size := by simp [World.setCell]
  refine ⟨g1.trans hb.os, g2.trans hb.tape, g3.trans hb.output, Nat.le_trans hb.size (hsz2 ▸ g4), fun k hk => ?_⟩
  rw [g5 k (by rw [hsz2]; exact Nat.lt_of_lt_of_le hk hb.size) (by omega) (by omega), Below.heap_setCell _ _ _ _ (show k ≠ N by omega)]
  exact hb.block k hk
set_option maxHeartbeats 2000000 in
theorem replace (s : ByteArray) (w0 w : World) (N : Nat) (h : Nr.New Re.xs w0 N w) (hs : s.size ≤ 1000) :
    Calls Tryz.prog 23 #[.pointer (some ⟨N, 0, none⟩), .string s] w fun e w' => e = .returned (.string ⟨(Es.esc s.data.toList).toArray⟩) ∧ Below w0.heap.size w0 w' := by
  have mixed := mix
  have ho := once (sF := Re.sF) rfl (fun v hv => by
    simp only [Re.xs, List.mem_cons, List.not_mem_nil, or_false] at hv
    rcases hv with rfl | rfl | rfl | rfl <;> rfl) Re.run (by decide) (fun h => (Re.facts h).1) h
  have hmf : ∀ (fn : Fn) (first cap : Array Value) (w : World), (Instr.makeFunc fn first cap).run Tryz.prog w = .ok (.func fn first cap) w := fun _ _ _ _ => rfl
  clear h
  go_enter Tryz.func23, Tryz.ntmps23
  go_wp2_with (go_at_call 61; refine ho.mono ?_)
  rintro e w' ⟨rfl, w1, M, hm, hw', hb, hlN⟩
  obtain ⟨_, B, x, a1, a2, a3, c1, c2, c3, hF⟩ := Re.facts hm
  have hF' : Re.Facts w' N B x a1 a2 a3 c1 c2 c3 := hw' ▸ facts_after hF
  have hb' : Below w0.heap.size w0 w' := hw' ▸ (hb.drew.setCell (p := ⟨N, 0, none⟩) hlN _).setCell (p := ⟨N, 0 + 1, none⟩) hlN _
  have hR := Es.replace s w' N B x a1 a2 a3 c1 c2 c3 hF' hs
  have hr := hF'.r
  clear hm hw' hb hF hF' ho
  have hmt : ∀ (w : World), (method 366 192 (.pointer (some ⟨B, x, none⟩)) "Replace").run Tryz.prog w = .ok (203, .pointer (some ⟨B, x, none⟩)) w := fun _ => by kernel_rfl
  go_wp2_with (go_at_call 203; refine hR.mono ?_)
  rintro e w2 ⟨rfl, hw2⟩
  have hw2 := hb'.trans (hw2.mono hb'.size)
  go_wp2
  go_ret
  exact ⟨rfl, hw2⟩
end Er
end Go.Proofs.YtdmpneafeadbbaaGreatDoor
