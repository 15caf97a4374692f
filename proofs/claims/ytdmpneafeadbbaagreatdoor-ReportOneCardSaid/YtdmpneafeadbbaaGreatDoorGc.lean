/- Texts of this claim, joined: each says ahead what it shows. Conditions: those of each contract. -/
import Derived.Test.YtdmpneafeadbbaaGreatDoorGb
import Derived.Test.YtdmpneafeadbbaaGreatDoorGa
import Derived.Shelf.Strings.BuilderX
import Derived.Lib.Builder
import Derived.Lib.Walk
import Derived.WalkKit
import Derived.Laws.Externs
import Derived.LoopTactic
import Derived.Laws.RangeString
import Derived.Laws.RangeAny
import Derived.Test.YtdmpneafeadbbaaGreatDoorMachF
import Derived.Tactics
import Derived.Tactics2
import Derived.Defers
import Derived.Laws.Pointers
import Derived.Laws.LoneSync
import Derived.RegionTactic
import Derived.RegionCalls
import Derived.ChangeAlike
set_option linter.unusedSimpArgs false
set_option maxRecDepth 100000
set_option linter.unusedVariables false
namespace Go.Proofs.YtdmpneafeadbbaaGreatDoor
open Go Go.Abs Go.RowKit
namespace Bu
theorem sizeBuilder : (Tryz.prog.info? 84).map (fun i => i.size) = some 2 := by kernel_rfl
theorem infoByte : (Tryz.prog.info? 5).map (fun i => (i.zero, i.size, i.bytes)) = some (some (.int .u8 0), 1, 1) := by kernel_rfl
theorem liesB : liesAt Tryz.prog Tryz.prog.depth 84 (2 / Tryz.prog.cellsOf 84) 0 84 1 = true := by kernel_rfl
set_option maxHeartbeats 1000000 in
theorem copyCheck_used (b : Nat) (w : World) (h0 : w.cell? ⟨b, 0, none⟩ = some (.pointer (some ⟨b, 0, none⟩))) :
    Calls Tryz.prog 74 #[.pointer (some ⟨b, 0, none⟩)] w fun e w' => e = .returned (.tuple #[]) ∧ w' = w := by
  obtain ⟨j, hj, _⟩ := Option.map_eq_some_iff.1 sizeBuilder
  have mixed := mix
  go_enter Tryz.func74, Tryz.ntmps74
  go_wp2
  rw [Lib.run_neq_ptr_same w _ Tryz.underlying82 hj]
  go_wp2
  go_end0
  exact ⟨rfl, rfl⟩
set_option maxHeartbeats 1000000 in
theorem copyCheck_fresh (b : Nat) (w : World) (h0 : w.cell? ⟨b, 0, none⟩ = some (.pointer none)) (hsh : w.shape? b = some (84, 2)) (hfz : w.frozen? ⟨b, 0, none⟩ = false) :
    Calls Tryz.prog 74 #[.pointer (some ⟨b, 0, none⟩)] w fun e w' => e = .returned (.tuple #[]) ∧ w' = w.setCell ⟨b, 0, none⟩ (.pointer (some ⟨b, 0, none⟩)) := by
  obtain ⟨j, hj, hjs⟩ := Option.map_eq_some_iff.1 sizeBuilder
  have mixed := mix
  go_enter Tryz.func74, Tryz.ntmps74
  go_wp2
  rw [Lib.run_to_unsafe w ⟨b, 0, none⟩ Tryz.underlying82 Tryz.underlying165 hj (by rw [hjs]; decide) hsh (Nat.zero_lt_succ 1)]
  simp only [Result.andThen]
  rw [Oper.upon_value]
  go_wp2
  rw [run_callFunc_extern Tryz.func106 (by kernel_rfl) (by kernel_rfl) (by kernel_rfl) (e := Extern.AbiNoEscape.same) (by kernel_rfl)]
  rw [Lib.run_noEscape]
  simp only [Result.andThen]
  rw [Oper.upon_value]
  go_wp2
  rw [Lib.run_from_unsafe w ⟨b, 0, none⟩ Tryz.underlying165 Tryz.underlying82 hj hsh liesB]
  simp only [Result.andThen]
  rw [Oper.upon_value]
  go_wp2
  go_end0
  exact ⟨rfl, rfl⟩
theorem copyCheck (B b : Nat) (bs : List Value) (w : World) (h : Lib.IsBuilder 84 5 B b bs w) :
    Calls Tryz.prog 74 #[.pointer (some ⟨b, 0, none⟩)] w fun e w' => e = .returned (.tuple #[]) ∧ (Lib.BuilderAt 84 5 B b (.pointer (some ⟨b, 0, none⟩)) bs w' ∧ Below B w w') := by
  rcases h with h | h
  · refine (copyCheck_fresh b w h.cell0 h.shape h.frozen0).mono ?_
    rintro e w' ⟨rfl, rfl⟩
    exact ⟨rfl, h.used _, (Below.refl B w).setCell (p := ⟨b, 0, none⟩) h.1 _⟩
  · refine (copyCheck_used b w h.cell0).mono ?_
    rintro e w' ⟨rfl, rfl⟩
    exact ⟨rfl, h, Below.refl B _⟩
set_option maxHeartbeats 2000000 in
theorem writeByte (B b : Nat) (bs : List Value) (c : Int) (w : World) (h : Lib.IsBuilder 84 5 B b bs w) (hlen : bs.length + 1 ≤ 140737488355328) (hBw : B ≤ w.heap.size) :
    Calls Tryz.prog 59 #[.pointer (some ⟨b, 0, none⟩), .int .u8 c] w fun e w' => e = .returned .nilIface ∧ (Lib.BuilderAt 84 5 B b (.pointer (some ⟨b, 0, none⟩)) (bs ++ [.int .u8 c]) w' ∧ Below B w w') := by
  obtain ⟨i0, hi, hz0, hz1, hz2⟩ := info_parts infoByte
  have mixed := mix
  go_enter Tryz.func59, Tryz.ntmps59
  go_wp2_with (go_at_call 74; refine (copyCheck B b bs _ h).mono ?_)
  rintro e w1 ⟨rfl, h1, hb1⟩
  obtain ⟨hB, v, hbk, hown, hne⟩ := h1
  have c0 : w1.cell? ⟨b, 0, none⟩ = some (.pointer (some ⟨b, 0, none⟩)) := by rw [Lib.cell_of_heap hbk]; rfl
  have c1 : w1.cell? ⟨b, 1, none⟩ = some v := by rw [Lib.cell_of_heap hbk]; rfl
  go_wp2_with (at_builtin; refine wpList_append_own _ rfl _ _ 61 rfl B 5 i0 (.int .u8 0) 1 1 Tryz.underlying61 hi hz0 hz1 hz2 rfl (by decide) _ _ _ rfl (hown.alloc _) ⟨w1.heap.size, 0, none⟩ 1 1 [.int .u8 c] rfl rfl ?c1 ?c2 ?c3 ?c4 ?c5 ?_)
  case c1 =>
    intro j u hj
    match j, hj with
    | 0, hj => simp at hj; subst hj; simp [Addr.add]
  case c2 => intro u hu; simp at hu; subst hu; rfl
  case c3 => unfold maxLen; omega
  case c4 => omega
  case c5 => have := hb1.size; simp; omega
  intro v' w2 hown' hgrow _
  have hlt : b < w1.heap.size := by
    rcases Nat.lt_or_ge b w1.heap.size with h' | h'
    · exact h'
    · simp [Array.getElem?_eq_none h'] at hbk
  have hb2 : w2.heap[b]? = some (.cells #[.pointer (some ⟨b, 0, none⟩), v] 84 (0, 0)) := by
    rw [hgrow.block b (by simp; omega) (fun e => hne e.symm), Lib.alloc_old w1 _ b hlt]
    exact hbk
  have d0 : w2.cell? ⟨b, 0, none⟩ = some (.pointer (some ⟨b, 0, none⟩)) := by rw [Lib.cell_of_heap hb2]; rfl
  have d1 : w2.cell? ⟨b, 1, none⟩ = some v := by rw [Lib.cell_of_heap hb2]; rfl
  have f1 : w2.frozen? ⟨b, 1, none⟩ = false := Lib.frozen_of_heap hb2 1
  obtain ⟨g, cap, rfl⟩ : ∃ g cap, v' = .slice (some ⟨g, 0, none⟩) (bs.length + 1) cap := by
    rcases hown'.2 with ⟨_, h0⟩ | ⟨g, cap, cur, hv, _⟩
    · omega
    · exact ⟨g, cap, hv⟩
  go_wp2
  go_ret
  refine ⟨rfl, ?_, ?_⟩
  · exact Lib.BuilderAt.put (T := 84) (e := 5) hB hb2 (bs' := bs ++ [.int .u8 c]) (by simpa using hown') (by decide)
  · exact ((hb1.alloc (by have := hb1.size; omega) _).grown hgrow (by have := hb1.size; simp; omega) (fun k hk => (hown.lt k hk).1)).setCell (p := ⟨b, 1, none⟩) hB _
end Bu
end Go.Proofs.YtdmpneafeadbbaaGreatDoor
set_option maxRecDepth 100000
set_option linter.unusedVariables false
namespace Go.Proofs.YtdmpneafeadbbaaGreatDoor
open Go Go.Abs Go.RowKit
namespace Bd
def digs : List UInt8 := [48, 49, 50, 51, 52, 53, 54, 55, 56, 57, 97, 98, 99, 100, 101, 102]
def dig (n : Nat) : UInt8 := digs.getD n 0
def hex : List UInt8 → List UInt8
  | [] => []
  | b :: l => dig (b.toNat / 16) :: dig (b.toNat % 16) :: hex l
theorem hex_append (a b : List UInt8) : hex (a ++ b) = hex a ++ hex b := by
  induction a with
  | nil => rfl
  | cons x a ih => simp [hex, ih]
theorem hex_length (a : List UInt8) : (hex a).length = 2 * a.length := by
  induction a with
  | nil => rfl
  | cons x a ih => simp [hex, ih]; omega
theorem dig_at (i : Nat) (h : i < 16) : ((⟨#[48, 49, 50, 51, 52, 53, 54, 55, 56, 57, 97, 98, 99, 100, 101, 102]⟩ : ByteArray)[i]'h) = dig i := by
  have : ∀ i : Fin 16, ((⟨#[48, 49, 50, 51, 52, 53, 54, 55, 56, 57, 97, 98, 99, 100, 101, 102]⟩ : ByteArray)[i.1]'i.2) = dig i.1 := by decide
  exact this ⟨i, h⟩
theorem take_hex (zs : List UInt8) (k : Nat) (h : k < zs.length) : Lib.byteCells (hex (zs.take (k + 1))) = Lib.byteCells (hex (zs.take k)) ++ [.int .u8 (dig ((zs.getD k 0).toNat / 16)).toNat] ++ [.int .u8 (dig ((zs.getD k 0).toNat % 16)).toNat] := by
  rw [List.take_succ_eq_append_getElem h, hex_append]
  have : zs.getD k 0 = zs[k] := by simp [List.getD, List.getElem?_eq_getElem h]
  rw [this]
  simp [Lib.byteCells, hex]
theorem fresh (w : World) : Lib.BuilderAt 84 5 w.heap.size w.heap.size (.pointer none) (Lib.byteCells (hex ([].take 0))) (w.alloc (.cells #[.pointer none, .slice none 0 0] 84)) := by
  refine ⟨Nat.le_refl _, .slice none 0 0, ?_, ⟨rfl, .inl ⟨rfl, rfl⟩⟩, by simp [Value.ownBlock]⟩
  show (w.heap.push _)[w.heap.size]? = _
  simp
set_option maxHeartbeats 4000000 in
theorem based (blk off cap : Nat) (zs : List UInt8) (w : World) (hn : zs.length ≤ 1000) (hblk : blk < w.heap.size) (hc : ∀ j, j < zs.length → w.cell? ⟨blk, off + j, none⟩ = some (.int .u8 (zs.getD j 0).toNat)) :
    Calls Tryz.prog 21 #[.slice (some ⟨blk, off, none⟩) zs.length cap] w fun e w' => e = .returned (.string ⟨(hex zs).toArray⟩) ∧ Below w.heap.size w w' := by
  have mixed := mix
  generalize hN : zs.length = n at *
  have HN := Lib.hid hN
  clear hN
  go_enter Tryz.func21, Tryz.ntmps21
  go_wp2
  go_loopw [8] (fun vi wr => ∃ k : Nat, vi = .int .i64 k ∧ k ≤ n ∧ Lib.IsBuilder 84 5 w.heap.size w.heap.size (Lib.byteCells (hex (zs.take k))) wr ∧ Below w.heap.size w wr) (fun vi _ => n - (intOf vi).toNat)
  case atStart =>
    refine ⟨0, rfl, Nat.zero_le _, .inl ?_, (Below.refl _ _).alloc (Nat.le_refl _) _⟩
    exact fresh w
  case round =>
    obtain ⟨k, rfl, hk, hb, hw⟩ := hrel
    by_cases hlt : k < n
    · have hcell : wr.cell? ⟨blk, off + k, none⟩ = some (.int .u8 (zs.getD k 0).toNat) := by rw [hw.cell hblk]; exact hc k hlt
      have hT := Lib.hid (take_hex zs k (by rw [HN.out]; exact hlt))
      have hlen : (Lib.byteCells (hex (zs.take k))).length ≤ 2000 := by rw [Lib.byteCells_length, hex_length, List.length_take]; omega
      generalize zs.getD k 0 = c at hcell hT
      generalize Lib.byteCells (hex (zs.take k)) = bs at hb hT hlen
      have hc0 : (c.toNat : Int) / 16 < 16 := by have := c.toNat_lt; omega
      have hc1 : 0 ≤ (c.toNat : Int) / 16 := by omega
      go_wp2_with (go_at_call 59; refine (Bu.writeByte w.heap.size w.heap.size bs _ wr hb (by omega) hw.size).mono ?_)
      rintro e w1 ⟨rfl, hb1, hw1⟩
      rw [dig_at] at hb1
      have hw1 := hw.trans hw1
      have hc2 : (c.toNat : Int) % 16 < 16 := by omega
      have hc3 : 0 ≤ (c.toNat : Int) % 16 := by omega
      go_wp2_with (go_at_call 59; refine (Bu.writeByte w.heap.size w.heap.size _ _ w1 (.inr hb1) (by simp; omega) hw1.size).mono ?_)
      rintro e w2 ⟨rfl, hb2, hw2⟩
      have hw2 := hw1.trans hw2
      go_wp2
      rw [dig_at] at hb2
      exact ⟨⟨k + 1, by go_num, by omega, .inr (by rw [hT.out]; exact hb2), hw2⟩, by simp [intOf]; omega⟩
    · have hk : k = n := by omega
      subst hk
      have hz : zs.take k = zs := List.take_of_length_le (by rw [HN.out]; exact Nat.le_refl _)
      rw [hz] at hb
      clear hz
      go_wp2_with (go_at_call 44; refine (Tryz.Builder_String_any w.heap.size w.heap.size (hex zs) wr hb hw.size).mono ?_)
      rintro e w1 ⟨rfl, hw1⟩
      have hw1 := hw.trans hw1
      go_wp2
      go_ret
      exact ⟨rfl, hw1⟩
end Bd
end Go.Proofs.YtdmpneafeadbbaaGreatDoor
set_option maxRecDepth 100000
set_option linter.unusedVariables false
namespace Go.Proofs.YtdmpneafeadbbaaGreatDoor
open Go Go.Abs Go.RowKit
namespace Tx
def pr (x : Nat) : Bool := decide (x < 32) || decide (126 < x)
def printB (l : List UInt8) : Bool := l.all fun b => !pr b.toNat
theorem idx_pr (s : ByteArray) : ∀ f pos, s.size ≤ f + pos → (0 ≤ Lib.idxFuncFrom pr true s f pos ↔ printB (s.data.toList.drop pos) = false)
  | 0, pos, h => by
    have hl : s.data.toList.length = s.size := rfl
    rw [List.drop_eq_nil_of_le (by omega)]
    simp [Lib.idxFuncFrom, printB]
  | f + 1, pos, h => by
    have hl : s.data.toList.length = s.size := rfl
    unfold Lib.idxFuncFrom
    by_cases hp : pos < s.size
    · rw [if_pos hp, List.drop_eq_getElem_cons (by omega : pos < s.data.toList.length)]
      have hb : s.data.toList[pos]'(by omega) = s[pos]'hp := rfl
      rw [hb]
      by_cases ha : (s[pos]'hp).toNat < 128
      · rw [Go.decode_ascii s pos hp ha]
        cases hq : pr (s[pos]'hp).toNat with
        | true => simp [printB, hq]
        | false =>
          rw [if_neg (by simp [hq])]
          have := idx_pr s f (pos + 1) (by omega)
          rw [this]
          simp [printB, hq]
      · have hh := Go.decode_high s pos hp (by omega)
        have h1 : pr (Utf8.decode s pos).1 = true := by simp [pr]; omega
        have h2 : pr (s[pos]'hp).toNat = true := by simp [pr]; omega
        simp [h1, h2, printB]
    · rw [if_neg hp, List.drop_eq_nil_of_le (by omega)]
      simp [printB]
theorem idx_print (s : ByteArray) : 0 ≤ Lib.idxFunc pr true s ↔ printB s.data.toList = false := by
  have := idx_pr s s.size 0 (by omega)
  rwa [List.drop_zero] at this
theorem pred (x : Nat) (w : World) : Calls Tryz.prog 73 #[.int .i32 x] w fun e w' => e = .returned (.bool (pr x)) ∧ w' = w := by
  have mixed := mix
  by_cases h1 : x < 32
  · have e : pr x = true := by simp [pr, h1]
    rw [e]
    have h2 : decide ((x : Int) < 32) = true := decide_eq_true (by omega)
    go_enter Tryz.func73, Tryz.ntmps73
    go_wp2
    go_ret
    exact ⟨rfl, rfl⟩
  · have h2 : decide ((x : Int) < 32) = false := decide_eq_false (by omega)
    by_cases h3 : 126 < x
    · have e : pr x = true := by simp [pr, h3]
      rw [e]
      have h4 : decide ((x : Int) > 126) = true := decide_eq_true (by omega)
      have h5 : decide (126 < (x : Int)) = true := decide_eq_true (by omega)
      go_enter Tryz.func73, Tryz.ntmps73
      go_wp2
      go_ret
      exact ⟨rfl, rfl⟩
    · have e : pr x = false := by simp [pr, h1, h3]
      rw [e]
      have h5 : decide (126 < (x : Int)) = false := decide_eq_false (by omega)
      go_enter Tryz.func73, Tryz.ntmps73
      go_wp2
      go_ret
      exact ⟨rfl, rfl⟩
theorem predAt (w : World) : PredAt Tryz.prog 73 #[] encR pr w := fun W x _ => (pred x W).mono fun e w' ⟨h1, h2⟩ => ⟨h1, 0, h2⟩
noncomputable def textV (s : ByteArray) : Value :=
  if 30 < s.size then .tuple #[.agg #[.int .u8 0, .int .i64 0, .int .u64 0, .string ⟨#[]⟩], .int .i64 4]
  else if printB s.data.toList = true then .tuple #[.agg #[.int .u8 3, .int .i64 0, .int .u64 0, .string s], .int .i64 0]
  else .tuple #[.agg #[.int .u8 0, .int .i64 0, .int .u64 0, .string ⟨#[]⟩], .int .i64 8]
theorem box4 {w : World} {b : Nat} {v0 v1 v2 v3 : Value} {T : TypeId} (h : w.heap[b]? = some (.cells #[v0, v1, v2, v3] T (0, 0))) :
    (w.cell? ⟨b, 0, none⟩ = some v0 ∧ w.cell? ⟨b, 1, none⟩ = some v1 ∧ w.cell? ⟨b, 2, none⟩ = some v2 ∧ w.cell? ⟨b, 3, none⟩ = some v3) ∧
    (w.frozen? ⟨b, 0, none⟩ = false ∧ w.frozen? ⟨b, 1, none⟩ = false ∧ w.frozen? ⟨b, 2, none⟩ = false ∧ w.frozen? ⟨b, 3, none⟩ = false) := by
  refine ⟨⟨?_, ?_, ?_, ?_⟩, Lib.frozen_of_heap h 0, Lib.frozen_of_heap h 1, Lib.frozen_of_heap h 2, Lib.frozen_of_heap h 3⟩ <;> (rw [Lib.cell_of_heap h]; rfl)
theorem heap_new (w : World) (o : Obj) : (w.alloc o).heap[w.heap.size]? = some o := by
  show (w.heap.push o)[w.heap.size]? = _
  simp
set_option maxHeartbeats 1000000 in
theorem text (s : ByteArray) (w : World) (hs : s.size ≤ maxLen) : Calls Tryz.prog 36 #[.string s] w fun e w' => e = .returned (textV s) ∧ Below w.heap.size w w' := by
  have mixed := mix
  unfold maxLen at hs
  by_cases h1 : 30 < s.size
  · unfold textV
    rw [if_pos h1]
    go_enter Tryz.func36, Tryz.ntmps36
    go_wp2
    exact bodyPost_ret (by simp [results, Tryz.results36, go_sem]) rfl ⟨rfl, (Below.refl _ _).alloc (Nat.le_refl _) _⟩
  · have hI := idx_print s
    have hR := Tryz.strings_IndexFunc 73 #[] (enters_of Tryz.func73 (by kernel_rfl) rfl) pr s
    unfold textV
    rw [if_neg h1]
    generalize Lib.idxFunc pr true s = i at hI hR
    by_cases h2 : printB s.data.toList = true
    · rw [if_pos h2]
      have h3 : i < 0 := by
        rw [h2] at hI
        have : ¬ 0 ≤ i := fun h => by cases hI.1 h
        omega
      clear hI h2
      go_enter Tryz.func36, Tryz.ntmps36
      go_wp2_with (go_at_call 72; refine (hR _ (predAt _)).mono ?_)
      rintro e w1 ⟨rfl, hw1⟩
      have hbk : w1.heap[w.heap.size]? = some (.cells #[.int .u8 0, .int .i64 0, .int .u64 0, .string ⟨#[]⟩] 24 (0, 0)) := (hw1.block _ (by simp)).trans (heap_new _ _)
      obtain ⟨⟨c0, c1, c2, c3⟩, f0, f1, f2, f3⟩ := box4 hbk
      have hw1 := ((Below.refl _ _).alloc (Nat.le_refl _) (Obj.cells #[Value.int IntKind.u8 0, Value.int IntKind.i64 0, Value.int IntKind.u64 0, Value.string { data := #[] }] 24)).trans (hw1.mono (by simp))
      go_wp2
      exact bodyPost_ret (by simp [results, Tryz.results36, go_sem, c0, c1, c2, c3]) rfl ⟨rfl, (((hw1.setCell (p := ⟨w.heap.size, 0, none⟩) (Nat.le_refl _) _).setCell (p := ⟨w.heap.size, 1, none⟩) (Nat.le_refl _) _).setCell (p := ⟨w.heap.size, 2, none⟩) (Nat.le_refl _) _).setCell (p := ⟨w.heap.size, 3, none⟩) (Nat.le_refl _) _⟩
    · rw [if_neg h2]
      have h3 : 0 ≤ i := hI.2 (by simpa using h2)
      clear hI h2
      go_enter Tryz.func36, Tryz.ntmps36
      go_wp2_with (go_at_call 72; refine (hR _ (predAt _)).mono ?_)
      rintro e w1 ⟨rfl, hw1⟩
      have hbk : w1.heap[w.heap.size]? = some (.cells #[.int .u8 0, .int .i64 0, .int .u64 0, .string ⟨#[]⟩] 24 (0, 0)) := (hw1.block _ (by simp)).trans (heap_new _ _)
      obtain ⟨⟨c0, c1, c2, c3⟩, f0, f1, f2, f3⟩ := box4 hbk
      have hw1 := ((Below.refl _ _).alloc (Nat.le_refl _) (Obj.cells #[Value.int IntKind.u8 0, Value.int IntKind.i64 0, Value.int IntKind.u64 0, Value.string { data := #[] }] 24)).trans (hw1.mono (by simp))
      go_wp2
      exact bodyPost_ret (by simp [results, Tryz.results36, go_sem, c0, c1, c2, c3]) rfl ⟨rfl, (((hw1.setCell (p := ⟨w.heap.size, 0, none⟩) (Nat.le_refl _) _).setCell (p := ⟨w.heap.size, 1, none⟩) (Nat.le_refl _) _).setCell (p := ⟨w.heap.size, 2, none⟩) (Nat.le_refl _) _).setCell (p := ⟨w.heap.size, 3, none⟩) (Nat.le_refl _) _⟩
end Tx
end Go.Proofs.YtdmpneafeadbbaaGreatDoor
set_option maxRecDepth 100000
namespace Go.Proofs.YtdmpneafeadbbaaGreatDoor
open Go Go.Abs Go.RowKit
namespace L
def v0 : El t24 := ((0 : Int), (0 : Int), (0 : Int), ([] : List UInt8), ())
noncomputable def r36l (l : List UInt8) : El t24 × Int × Unit :=
  iff (Nat.blt 30 (lenQ l)) (v0, (4 : Int), ()) (iff (Tx.printB l) (((3 : Int), (0 : Int), (0 : Int), l, ()), (0 : Int), ()) (v0, (8 : Int), ()))
noncomputable def r36s (l : List UInt8) : Option (El t24 × Int × Unit) := iff (Nat.ble (lenQ l) 1000000000) (some (r36l l)) none
noncomputable def r36 (_ : Nat) (a : ElL [t9]) : Option (ElL [t24, t25]) := r36s a.1
noncomputable def r36k (n : Nat) : Con := ⟨36, [t9], [t24, t25], r36 n, false, none⟩
theorem enters36 : Go.Abs.Enters Tryz.prog 36 := ⟨_, Tryz.func36, by kernel_rfl, by kernel_rfl⟩
theorem textV_eq (l : List UInt8) : Tx.textV ⟨⟨l⟩⟩ = oneOrTuple (valsL [t24, t25] (r36l l)) := by
  have hs : (⟨⟨l⟩⟩ : ByteArray).size = l.length := rfl
  unfold Tx.textV r36l
  rw [hs, iff_eq, lenQ_eq]
  by_cases h : 30 < l.length
  · rw [if_pos h, if_pos ((blt_iff _ _).2 h)]; rfl
  · rw [if_neg h, if_neg (fun h' => h ((blt_iff _ _).1 h'))]
    cases hp : Tx.printB l with
    | true => rfl
    | false => rfl
theorem r36_ok (n : Nat) : SpecSim Tryz.prog noG 36 (Con.spec (r36k n)) :=
  con_of_calls enters36 rfl rfl fun a r h w => by
    obtain ⟨l, _⟩ := a
    have key : ∀ l : List UInt8, r36s l = some r → Calls Tryz.prog 36 #[.string ⟨⟨l⟩⟩] w fun e w' => e = .returned (oneOrTuple (valsL [t24, t25] r)) ∧ Below w.heap.size w w' := fun l h => by
      obtain ⟨h1, h2⟩ := iff_some h
      cases h2
      have h1 := Nat.le_of_ble_eq_true h1
      rw [lenQ_eq] at h1
      refine (Tx.text ⟨⟨l⟩⟩ w (by unfold maxLen; show l.length ≤ _; omega)).mono fun e w' ⟨g1, g2⟩ => ⟨?_, g2⟩
      rw [g1, textV_eq]
    exact key l h
end L
end Go.Proofs.YtdmpneafeadbbaaGreatDoor
set_option maxRecDepth 100000
set_option linter.unusedVariables false
namespace Go.Proofs.YtdmpneafeadbbaaGreatDoor
open Go Go.Abs
namespace L
noncomputable def r12_j10 (n : Nat) (x0_j10 : Bool) : Option (Int × Unit) :=
  iff x0_j10 (Option.some (Int.ofNat 8, PUnit.unit)) (Option.some (Int.ofNat 0, PUnit.unit))
noncomputable def r12_j9 (n : Nat) (x0_j9 : El t24) (x1_j9 : El t24) : Option (Int × Unit) :=
  andThen
  (iff
    (!eqE
        (Ty.pair (Ty.int Go.IntKind.u8)
          (Ty.pair (Ty.int Go.IntKind.i64)
            (Ty.pair (Ty.int Go.IntKind.u64) (Ty.pair Ty.str Ty.unit))))
        x0_j9 x1_j9)
    (Option.some (Sum.inl ((Bool.true, PUnit.unit), PUnit.unit, PUnit.unit)))
    (Option.some (Sum.inl ((eqQ x0_j9.1 (Int.ofNat 0), PUnit.unit), PUnit.unit, PUnit.unit))))
  (sumK fun (x : (Bool × Unit) × Unit × Unit) => r12_j10 n (Prod.fst (Prod.fst x)))
noncomputable def r12c (n : Nat) (x0 : El t24) : Option (Int × Unit) :=
  andThen
  (iff (eqQ x0.1 (Int.ofNat 1))
    (Option.some (Sum.inl ((PUnit.unit, PUnit.unit, PUnit.unit), PUnit.unit, x0, (Int.ofNat 1, x0.2.1, Int.ofNat 0, [], PUnit.unit), PUnit.unit)))
    (iff (eqQ x0.1 (Int.ofNat 2))
      (andThen (r35 n (x0.2.2.1, PUnit.unit))
        fun (y1 : ElL (Con.B (r35k n))) =>
        Option.some (Sum.inl ((PUnit.unit, PUnit.unit, PUnit.unit), PUnit.unit, x0, y1.1, PUnit.unit)))
      (iff (eqQ x0.1 (Int.ofNat 3))
        (andThen (r36 n (x0.2.2.2.1, PUnit.unit))
          fun (y2 : ElL (Con.B (r36k n))) =>
          Option.some (Sum.inl ((PUnit.unit, PUnit.unit, PUnit.unit), PUnit.unit, x0, y2.1, PUnit.unit)))
        (Option.some
          (Sum.inl ((PUnit.unit, PUnit.unit, PUnit.unit), PUnit.unit, x0, (Int.ofNat 0, Int.ofNat 0, Int.ofNat 0, [], PUnit.unit), PUnit.unit))))))
  (sumK
    fun
      (x :
        (Unit × Unit × Unit) ×
          Unit × El t24 × El t24 × Unit) =>
    r12_j9 n (Prod.fst (Prod.snd (Prod.snd x))) (Prod.fst (Prod.snd (Prod.snd (Prod.snd x)))))
noncomputable def r12 (n : Nat) (a : ElL [t24]) : Option (ElL [t25]) := r12c n (a.1)
noncomputable def r12p : Plan := ⟨[], [(9, Cut.mk [(1, Shp.at 0 0), (3, Shp.at 1 0)] []
  [(0, Shp.d t24), (1, Shp.d t24)] 2), (10, Cut.mk [(31, Shp.d Ty.bool)] [] [] 0)], []⟩
noncomputable def r12k (n : Nat) : Con := ⟨12, [t24], [t25], r12 n, false, none⟩
theorem r12_ok (n : Nat) : SpecSim Tryz.prog noG 12 (Con.spec (r12k n)) :=
  lift_ok (tab := [r36k n, r35k n, r34k n]) (fn := Tryz.f12) r12p n mix Tb.tys (Cons.all (.cons (r36_ok n) (.cons (r35_ok n) (.cons (r34_ok n) .nil)))) Tryz.func12 rfl (by kernel_rfl) (fun h => by cases h) (fun ⟨x0, _⟩ => by kernel_rfl)
end L
end Go.Proofs.YtdmpneafeadbbaaGreatDoor
set_option maxRecDepth 100000
set_option linter.unusedVariables false
namespace Go.Proofs.YtdmpneafeadbbaaGreatDoor
open Go Go.Abs Go.RowKit
namespace On
theorem disable (w : World) : (callFunc 156 #[]).run Tryz.prog w = .ok (.value (.tuple #[])) w := run_call_mark0 Tryz.func156 (by kernel_rfl) (by kernel_rfl) (by kernel_rfl) .disable (by kernel_rfl) w
theorem enable (w : World) : (callFunc 158 #[]).run Tryz.prog w = .ok (.value (.tuple #[])) w := run_call_mark0 Tryz.func158 (by kernel_rfl) (by kernel_rfl) (by kernel_rfl) .enable (by kernel_rfl) w
theorem acquire (a : Addr) (w : World) : (callFunc 159 #[.pointer (some a)]).run Tryz.prog w = .ok (.value (.tuple #[])) w := run_call_marked Tryz.func159 (by kernel_rfl) (by kernel_rfl) (by kernel_rfl) .acquire (by kernel_rfl) a w
theorem releaseMerge (a : Addr) (w : World) : (callFunc 161 #[.pointer (some a)]).run Tryz.prog w = .ok (.value (.tuple #[])) w := run_call_marked Tryz.func161 (by kernel_rfl) (by kernel_rfl) (by kernel_rfl) .releaseMerge (by kernel_rfl) a w
theorem store_deferred (a : Addr) (x : Value) (u : FrameMode) (w : World) (hc : w.cell? a = some x) (hz : w.frozen? a = false) :
    CallsD Tryz.prog 128 #[.pointer (some a), .bool true] u w fun e u' w' => u' = u ∧ (e = .returned (.tuple #[]) ∧ w' = w.drew.setCell a (.int .u32 1)) := by
  have mixed := mix
  have hc' : w.drew.cell? a = some x := by go_simp
  have hz' : w.drew.frozen? a = false := by go_simp
  have hst := run_call_store (P := Tryz.prog) Tryz.func147 (by kernel_rfl) (by kernel_rfl) (by kernel_rfl) (by kernel_rfl) (k := .u32) (y := 1) hc' hz'
  go_enter_d Tryz.func128, Tryz.ntmps128
  go_wp2
  go_region_calls
  all_goals (go_end0; exact ⟨rfl, rfl⟩)
theorem unlock_deferred (a : Addr) (u : FrameMode) (w : World) (hc : w.cell? a = some (.int .i32 1)) (hz : w.frozen? a = false) :
    CallsD Tryz.prog 127 #[.pointer (some a)] u w fun e u' w' => u' = u ∧ (e = .returned (.tuple #[]) ∧ w' = w.setCell a (.int .i32 0)) := by
  have mixed := mix
  have hd := disable
  have he := enable
  have hr := releaseMerge
  have hadd := run_call_add (P := Tryz.prog) Tryz.func162 (by kernel_rfl) (by kernel_rfl) (by kernel_rfl) .i32 (by kernel_rfl) (y := -1) (s := 0) hc hz (by simp [go_sem]; rfl)
  have hcv := run_convert_to_unsafe (P := Tryz.prog) (src := 222) (dst := 165) Tryz.underlying222 Tryz.underlying165 (by kernel_rfl) hc
  go_enter_d Tryz.func127, Tryz.ntmps127
  go_wp2
  go_end0
  go_wp2
  go_end0
  exact ⟨rfl, rfl⟩
theorem lock_free (a : Addr) (w : World) (hc : w.cell? a = some (.int .i32 0)) (hz : w.frozen? a = false) :
    Calls Tryz.prog 126 #[.pointer (some a)] w fun e w' => e = .returned (.tuple #[]) ∧ w' = w.setCell a (.int .i32 1) := by
  have mixed := mix
  have hd := disable
  have he := enable
  have ha := acquire
  have hcas := run_call_cas_hit (P := Tryz.prog) Tryz.func157 (by kernel_rfl) (by kernel_rfl) (by kernel_rfl) .i32 (by kernel_rfl) (y := 1) hc hz
  have hc' : (w.setCell a (.int .i32 1)).cell? a = some (.int .i32 1) := World.cell?_setCell_same w a _ hc
  have hcv := run_convert_to_unsafe (P := Tryz.prog) (src := 222) (dst := 165) Tryz.underlying222 Tryz.underlying165 (by kernel_rfl) hc'
  go_enter Tryz.func126, Tryz.ntmps126
  go_wp2
  first | go_end0 | (simp only [Exit.inBlock, Exit.then]; refine bodyPost_ret (results_none rfl _ _ _) rfl ?_) | refine bodyPost_ret (results_none rfl _ _ _) rfl ?_
  go_wp2
  go_end0
  exact ⟨rfl, rfl⟩
def Held (b off : Nat) (w : World) : Prop := (∃ x, w.cell? ⟨b, off, none⟩ = some x) ∧ w.cell? ⟨b, off + 1, none⟩ = some (.int .i32 1) ∧ w.frozen? ⟨b, off, none⟩ = false ∧ w.frozen? ⟨b, off + 1, none⟩ = false
def After (R : World → Prop) (b off : Nat) (w' : World) : Prop := ∃ w1, R w1 ∧ w' = (w1.drew.setCell ⟨b, off, none⟩ (.int .u32 1)).setCell ⟨b, off + 1, none⟩ (.int .i32 0)
set_option maxHeartbeats 1600000 in
theorem slow (b off : Nat) (w : World) (R : World → Prop)
    (h0 : w.cell? ⟨b, off, none⟩ = some (.int .u32 0)) (h1 : w.cell? ⟨b, off + 1, none⟩ = some (.int .i32 0)) (f0 : w.frozen? ⟨b, off, none⟩ = false) (f1 : w.frozen? ⟨b, off + 1, none⟩ = false)
    (hR : ∀ w1, R w1 → Held b off w1)
    (hf : Calls Tryz.prog 62 #[.pointer (some ⟨b, off, none⟩)] (w.setCell ⟨b, off + 1, none⟩ (.int .i32 1)) fun e w1 => e = .returned (.tuple #[]) ∧ R w1) :
    Calls Tryz.prog 94 #[.pointer (some ⟨b, off, none⟩), .func (.func 62) #[.pointer (some ⟨b, off, none⟩)] #[]] w fun e w' => e = .returned (.tuple #[]) ∧ After R b off w' := by
  have mixed := mix
  have hl := run_call_load (P := Tryz.prog) Tryz.func125 (by kernel_rfl) (by kernel_rfl) (by kernel_rfl) .u32 (by kernel_rfl) (w := w.setCell ⟨b, off + 1, none⟩ (.int .i32 1)) (a := ⟨b, off, none⟩) (x := 0) ((World.cell?_setCell_other _ ⟨b, off + 1, none⟩ ⟨b, off, none⟩ _ (by simp)).trans h0)
  have hnot : ∀ (x : Bool) (w : World), (Op.unary .not (.bool x)).run Tryz.prog w = .ok (.bool (!x)) w := fun _ _ => rfl
  go_enter_defers Tryz.func94, Tryz.ntmps94
  go_wp2_with (first | (go_at_call 126; refine (lock_free ⟨b, off + 1, none⟩ _ (by go_simp) (by go_simp)).mono ?_; rintro e w' ⟨rfl, rfl⟩) | (go_at_call 62; refine hf.mono ?_; rintro e w1 ⟨rfl, hr⟩) | (go_at_call 93; go_in))
  obtain ⟨⟨x, c0⟩, c1, g0, g1⟩ := hR w1 hr
  refine leaves_cons (f := 128) (args := #[.pointer (some ⟨b, off, none⟩), .bool true]) (by simp) (by simp [go_sem]) ?_
  refine (store_deferred ⟨b, off, none⟩ x .returning _ c0 g0).mono ?_
  rintro e u' w'' ⟨rfl, rfl, rfl⟩
  refine leaves_cons (f := 127) (args := #[.pointer (some ⟨b, off + 1, none⟩)]) (by simp [settle]) (by simp [go_sem]) ?_
  refine (unlock_deferred ⟨b, off + 1, none⟩ _ _ ?_ (by simp [g1])).mono ?_
  · refine (World.cell?_setCell_other _ ⟨b, off, none⟩ ⟨b, off + 1, none⟩ _ (by simp)).trans ?_
    rw [World.cell?_drew]
    exact c1
  rintro e u' w'' ⟨rfl, rfl, rfl⟩
  have hA : After R b off ((w1.drew.setCell ⟨b, off, none⟩ (.int .u32 1)).setCell ⟨b, off + 1, none⟩ (.int .i32 0)) := ⟨w1, hr, rfl⟩
  simp [Leaves, settle, results, Tryz.results94]
  exact hA
theorem do_first (b off : Nat) (w : World) (R : World → Prop)
    (h0 : w.cell? ⟨b, off, none⟩ = some (.int .u32 0)) (h1 : w.cell? ⟨b, off + 1, none⟩ = some (.int .i32 0)) (f0 : w.frozen? ⟨b, off, none⟩ = false) (f1 : w.frozen? ⟨b, off + 1, none⟩ = false)
    (hR : ∀ w1, R w1 → Held b off w1)
    (hf : Calls Tryz.prog 62 #[.pointer (some ⟨b, off, none⟩)] (w.setCell ⟨b, off + 1, none⟩ (.int .i32 1)) fun e w1 => e = .returned (.tuple #[]) ∧ R w1) :
    Calls Tryz.prog 61 #[.pointer (some ⟨b, off, none⟩), .func (.func 62) #[.pointer (some ⟨b, off, none⟩)] #[]] w fun e w' => e = .returned (.tuple #[]) ∧ After R b off w' := by
  have mixed := mix
  have hl := run_call_load (P := Tryz.prog) Tryz.func125 (by kernel_rfl) (by kernel_rfl) (by kernel_rfl) .u32 (by kernel_rfl) h0
  have hnot : ∀ (x : Bool) (w : World), (Op.unary .not (.bool x)).run Tryz.prog w = .ok (.bool (!x)) w := fun _ _ => rfl
  have hs := slow b off w R h0 h1 f0 f1 hR hf
  go_enter Tryz.func61, Tryz.ntmps61
  go_wp2_with (first | (go_at_call 94; refine hs.mono ?_; rintro e w' ⟨rfl, hA⟩) | (go_at_call 93; go_in))
  go_end0
  exact ⟨rfl, hA⟩
end On
end Go.Proofs.YtdmpneafeadbbaaGreatDoor
set_option maxRecDepth 100000
set_option linter.unusedVariables false
namespace Go.Proofs.YtdmpneafeadbbaaGreatDoor
open Go Go.Abs Go.RowKit
namespace Rb
def str (l : List UInt8) : Value := .string ⟨⟨l⟩⟩
noncomputable def c0 : List Value := [.int .u32 0, .int .i32 1, .int .u32 0, .nilIface, .slice (some ⟨1, 0, some 1⟩) 4 4]
noncomputable def st0 (xs : List Value) : ASt := ⟨(Tr.leaf.set 0 (.cells c0 none 0 false false)).set 1 (.cells xs (some 1) 1 false false), 2, 2, 2⟩
theorem obj0 (xs : List Value) (k : Nat) : (st0 xs).obj k = if k = 1 then some (.cells xs (some 1) 1 false false) else if k = 0 then some (.cells c0 none 0 false false) else none := by
  show ((Tr.leaf.set 0 (AObj.cells c0 none 0 false false)).set 1 (.cells xs (some 1) 1 false false)).get k = _
  rw [Tr.get_set, Tr.get_set]
  rfl
def at0 (N M cap : Nat) : PMap := ⟨fun k => if k = 0 then some ⟨N, 0, 5, none, 0, false, 5⟩ else if k = 1 then some ⟨M, 0, cap, some 1, 1, false, 4⟩ else none, fun _ => none⟩
def noH : Nat → Option AObj := fun _ => none
theorem pre0 {xs : List Value} {sF : ASt} (hx : xs.length = 4) (hs : ∀ v ∈ xs, onePl v = true) (hn : 2 ≤ sF.next) {w : World} {N M cap : Nat} {cur : Array Value}
    (hN : w.heap[N]? = some (.cells #[.int .u32 0, .int .i32 1, .int .u32 0, .nilIface, .slice (some ⟨M, 0, none⟩) 4 cap] 132 (0, 0))) (hM : w.heap[M]? = some (.cells cur 9 (0, 0)))
    (hsz : cur.size = cap) (hcap : 4 ≤ cap) (htake : cur.toList.take 4 = xs) (hne : N ≠ M) : Pre (st0 xs) sF (at0 N M cap) No No noH w where
  rel := by
    refine ⟨fun k i hk => ?_, fun k i hk => ?_, fun B cc h => (by cases h), fun k i _ _ => rfl, fun k₁ k₂ i₁ i₂ h12 h1 h2 hb => ?_⟩
    · unfold at0 at hk
      simp only at hk
      split at hk
      · rename_i h0
        subst h0
        cases hk
        refine ⟨.cells c0 none 0 false false, by unfold ext; rw [if_pos (show 0 < (st0 xs).next from (by decide : 0 < 2))]; rfl, _, 132, (0, 0), hN, rfl, (show 0 + 5 ≤ 5 by decide), fun v hv => ?_, ?_, fun _ x _ => by omega, rfl, rfl, rfl, rfl⟩
        · simp only [c0, List.mem_cons, List.not_mem_nil, or_false] at hv
          rcases hv with rfl | rfl | rfl | rfl | rfl <;> rfl
        · exact .cons (.int _ _) (.cons (.int _ _) (.cons (.int _ _) (.cons .nilIface (.cons (.slo 4 4 cap (Nat.le_refl _) rfl ⟨rfl, hcap, .inl ⟨⟨M, 0, cap, some 1, 1, false, 4⟩, rfl, rfl, rfl, .inl ⟨rfl, (show 0 + cap * 1 = cap by omega)⟩⟩⟩) .nil))))
      · split at hk
        · rename_i h0 h1
          subst h1
          cases hk
          refine ⟨.cells xs (some 1) 1 false false, by unfold ext; rw [if_pos (show 1 < (st0 xs).next from (by decide : 1 < 2))]; rfl, cur, 9, (0, 0), hM, hsz, by show 0 + xs.length ≤ cap; omega, fun v hv => oneA_pl (hs v hv), ?_, fun _ x _ => by omega, rfl, rfl, rfl, hx.symm⟩
          show VRs _ _ xs ((cur.toList.drop 0).take xs.length)
          rw [List.drop_zero, hx, htake]
          exact .pl hs
        · cases hk
    · unfold at0 at hk
      simp only at hk
      split at hk
      · rename_i h0
        cases hk
        exact ⟨Nat.zero_le _, fun _ => h0.symm⟩
      · split at hk
        · rename_i h1
          cases hk
          exact ⟨by show 1 ≤ k; omega, fun h => (by cases h)⟩
        · cases hk
    · unfold at0 at h1 h2
      simp only at h1 h2
      exfalso
      split at h1
      · cases h1
        split at h2
        · omega
        · split at h2
          · cases h2; exact hne hb
          · cases h2
      · split at h1
        · cases h1
          split at h2
          · cases h2; exact hne hb.symm
          · split at h2
            · omega
            · cases h2
        · cases h1
  wf := fun k hk => by
    have hk : 2 ≤ k := hk
    rw [obj0, if_neg (by omega), if_neg (by omega)]
  nle := hn
  fresh := fun k hk _ => by
    have hk : 2 ≤ k := hk
    show (if k = 0 then _ else if k = 1 then _ else none) = none
    rw [if_neg (by omega), if_neg (by omega)]
  okf := fun k h => h.elim
  okd := fun k i h => h.elim
  far := fun k i hk hl => by
    unfold at0 at hk
    simp only at hk
    split at hk
    · omega
    · split at hk
      · omega
      · cases hk
  dead := fun k h => h.elim
def Made (sF : ASt) (w : World) (N M : Nat) (w1 : World) : Prop :=
  ∃ π δ D H, Pre sF sF π δ D H w1 ∧ AR π D ⟨0, 0, none⟩ ⟨N, 0, none⟩ ∧ (w1.os = w.os ∧ w1.tape = w.tape ∧ w1.output = w.output ∧ w.heap.size ≤ w1.heap.size) ∧ ∀ B, B < w.heap.size → B ≠ N → B ≠ M → w1.heap[B]? = w.heap[B]?
theorem once_run {xs : List Value} {sF : ASt} (hx : xs.length = 4) (hs : ∀ v ∈ xs, onePl v = true) (hrun : callN Tb.T 300 12 62 [.pointer (some ⟨0, 0, none⟩)] (st0 xs) = some (.tuple ⟨[]⟩, sF)) (hn : 2 ≤ sF.next) {w : World} {N M cap : Nat} {cur : Array Value}
    (hN : w.heap[N]? = some (.cells #[.int .u32 0, .int .i32 1, .int .u32 0, .nilIface, .slice (some ⟨M, 0, none⟩) 4 cap] 132 (0, 0))) (hM : w.heap[M]? = some (.cells cur 9 (0, 0)))
    (hsz : cur.size = cap) (hcap : 4 ≤ cap) (htake : cur.toList.take 4 = xs) (hne : N ≠ M) :
    Calls Tryz.prog 62 #[.pointer (some ⟨N, 0, none⟩)] w fun e w1 => e = .returned (.tuple #[]) ∧ Made sF w N M w1 := by
  have hp := pre0 (sF := sF) hx hs hn hN hM hsz hcap htake hne
  have ha : AR (at0 N M cap) No ⟨0, 0, none⟩ ⟨N, 0, none⟩ := ⟨rfl, .inl ⟨⟨N, 0, 5, none, 0, false, 5⟩, rfl, rfl, rfl⟩⟩
  obtain ⟨_, h⟩ := sim_callN (lf := 300) Tb.tys Tb.fns 12 _ _ _ _ _ hrun
  refine (h (Nat.le_refl _) (at0 N M cap) No No noH w [.pointer (some ⟨N, 0, none⟩)] (fun g hg => ?_) (.one (.ptr rfl ha)) hp).mono fun e w1 ⟨v', π', D', h1, h2, h3⟩ => ?_
  · cases (show Nat.blt g 0 = true from hg)
  · have hv : v' = .tuple #[] := by
      cases h2 with
      | tuple _ hc hcs => rw [VRs.empty ⟨hc, hcs⟩]
    subst hv
    refine ⟨h1, π', _, D', noH, hp.second h3 (.refl sF), ha.mono (h3.pstep hp), ⟨h3.fr.os, h3.fr.tape, h3.fr.output, h3.fr.size⟩, fun B hB g1 g2 => h3.fr.keep B hB fun k i hk _ hb => ?_⟩
    unfold at0 at hk
    simp only at hk
    split at hk
    · cases hk; exact g1 hb.symm
    · split at hk
      · cases hk; exact g2 hb.symm
      · cases hk
end Rb
end Go.Proofs.YtdmpneafeadbbaaGreatDoor
set_option maxRecDepth 100000
set_option linter.unusedVariables false
namespace Go.Proofs.YtdmpneafeadbbaaGreatDoor
open Go Go.Abs Go.RowKit
namespace Re
open Rb
noncomputable def xs : List Value := [str [32], str [92, 115], str [92], str [92, 92]]
noncomputable def repl (b : Nat) : Value := if b = 32 then .slice (some ⟨9, 0, some 1⟩) 2 2 else if b = 92 then .slice (some ⟨6, 0, some 1⟩) 2 2 else .slice none 0 0
noncomputable def row (b : Nat) : Value := if b = 256 then .slice (some ⟨2, 0, none⟩) 2 2 else repl b
noncomputable def tab : List Value := (List.range 257).map row
noncomputable def sF : ASt :=
  ⟨((((((((((Tr.leaf.set 0 (.cells [.int .u32 0, .int .i32 1, .int .u32 0, .iface 192 (.pointer (some ⟨3, 0, none⟩)), .slice none 0 0] none 0 false false)).set 1 (.cells xs (some 1) 1 false false)).set 2 (.cells [str [92], str [32]] none 2 false false)).set 3 (.cells tab none 3 false false)).set 4
    (.cells [.int .u8 92] none 4 false false)).set 5 (.cells [str [92]] none 5 false false)).set 6 (.cells [.int .u8 92, .int .u8 92] (some 1) 6 false false)).set 7 (.cells [.int .u8 32] none 7 false false)).set 8 (.cells [str [32]] none 8 false false)).set 9
    (.cells [.int .u8 92, .int .u8 115] (some 1) 9 false false)), 10, 0, 2⟩
set_option maxHeartbeats 4000000 in
theorem run : callN Tb.T 300 12 62 [.pointer (some ⟨0, 0, none⟩)] (st0 xs) = some (.tuple ⟨[]⟩, sF) := by kernel_rfl
theorem o0 : sF.obj 0 = some (.cells [.int .u32 0, .int .i32 1, .int .u32 0, .iface 192 (.pointer (some ⟨3, 0, none⟩)), .slice none 0 0] none 0 false false) := by kernel_rfl
theorem o2 : sF.obj 2 = some (.cells [str [92], str [32]] none 2 false false) := by kernel_rfl
theorem o3 : sF.obj 3 = some (.cells tab none 3 false false) := by kernel_rfl
theorem o6 : sF.obj 6 = some (.cells [.int .u8 92, .int .u8 92] (some 1) 6 false false) := by kernel_rfl
theorem o9 : sF.obj 9 = some (.cells [.int .u8 92, .int .u8 115] (some 1) 9 false false) := by kernel_rfl
theorem tab_at (b : Nat) (h : b < 257) : tab[b]? = some (row b) := by
  unfold tab
  rw [List.getElem?_map, List.getElem?_range h]; rfl
def repV (a1 a2 : Addr) (c1 c2 b : Nat) : Value := if b = 32 then .slice (some a1) 2 c1 else if b = 92 then .slice (some a2) 2 c2 else .slice none 0 0
structure Facts (w : World) (N : Nat) (B x : Nat) (a1 a2 a3 : Addr) (c1 c2 c3 : Nat) : Prop where
  r : w.cell? ⟨N, 3, none⟩ = some (.iface 192 (.pointer (some ⟨B, x, none⟩)))
  tab : ∀ b, b < 256 → w.cell? ⟨B, x + b, none⟩ = some (repV a1 a2 c1 c2 b)
  list : w.cell? ⟨B, x + 256, none⟩ = some (.slice (some a3) 2 c3)
  b1 : w.cell? ⟨a1.block, a1.off, none⟩ = some (.int .u8 92) ∧ w.cell? ⟨a1.block, a1.off + 1, none⟩ = some (.int .u8 115)
  b2 : w.cell? ⟨a2.block, a2.off, none⟩ = some (.int .u8 92) ∧ w.cell? ⟨a2.block, a2.off + 1, none⟩ = some (.int .u8 92)
  b3 : w.cell? ⟨a3.block, a3.off, none⟩ = some (str [92]) ∧ w.cell? ⟨a3.block, a3.off + 1, none⟩ = some (str [32])
  spots : a1.spot = none ∧ a2.spot = none ∧ a3.spot = none
  caps : 2 ≤ c1 ∧ 2 ≤ c2 ∧ 2 ≤ c3
  ne : B ≠ N ∧ a1.block ≠ N ∧ a2.block ≠ N ∧ a3.block ≠ N
  lt : B < w.heap.size ∧ a1.block < w.heap.size ∧ a2.block < w.heap.size ∧ a3.block < w.heap.size
theorem facts {w w1 : World} {N M : Nat} (h : Made sF w N M w1) : On.Held N 0 w1 ∧ ∃ B x a1 a2 a3 c1 c2 c3, Facts w1 N B x a1 a2 a3 c1 c2 c3 := by
  obtain ⟨π, δ, D, H, hp, ha, _, _⟩ := h
  have q0 := obj_row o0
  obtain ⟨v, g0, _⟩ := hp.cell q0 ha (j := 0) rfl
  obtain ⟨v1, g1, h1⟩ := hp.cell q0 ha (j := 1) rfl
  obtain ⟨v3, g3, h3⟩ := hp.cell q0 ha (j := 3) rfl
  rw [h1.int_inv] at g1
  obtain ⟨u3, rfl, h4⟩ := h3.iface_inv
  obtain ⟨a, rfl, ha0, hA⟩ := h4.ptr_at
  have f0 := hp.free o0 ha (j := 0) (by decide)
  have f1 := hp.free o0 ha (j := 1) (by decide)
  refine ⟨⟨⟨v, g0⟩, g1, f0, f1⟩, ?_⟩
  have q3 := obj_row o3
  have T := fun b hb => hp.cell q3 hA (j := b) (v := row b) (by rw [Nat.zero_add]; exact tab_at b hb)
  obtain ⟨v32, g32, h32⟩ := T 32 (by decide)
  obtain ⟨v92, g92, h92⟩ := T 92 (by decide)
  obtain ⟨vl, gl, hl⟩ := T 256 (by decide)
  obtain ⟨a1, c1, rfl, k1, s1, hA1⟩ := VR.slice_at (show VR π D (.slice (some ⟨9, 0, some 1⟩) 2 2) v32 from h32) (by decide)
  obtain ⟨a2, c2, rfl, k2, s2, hA2⟩ := VR.slice_at (show VR π D (.slice (some ⟨6, 0, some 1⟩) 2 2) v92 from h92) (by decide)
  obtain ⟨a3, c3, rfl, k3, s3, hA3⟩ := VR.slice_at (show VR π D (.slice (some ⟨2, 0, none⟩) 2 2) vl from hl) (by decide)
  have q9 := obj_row o9
  have q6 := obj_row o6
  have q2 := obj_row o2
  obtain ⟨_, e1, r1⟩ := hp.cell q9 hA1 (j := 0) rfl
  obtain ⟨_, e2, r2⟩ := hp.cell q9 hA1 (j := 1) rfl
  obtain ⟨_, e3, r3⟩ := hp.cell q6 hA2 (j := 0) rfl
  obtain ⟨_, e4, r4⟩ := hp.cell q6 hA2 (j := 1) rfl
  obtain ⟨_, e5, r5⟩ := hp.cell q2 hA3 (j := 0) rfl
  obtain ⟨_, e6, r6⟩ := hp.cell q2 hA3 (j := 1) rfl
  rw [r1.int_inv] at e1
  rw [r2.int_inv] at e2
  rw [r3.int_inv] at e3
  rw [r4.int_inv] at e4
  rw [r5.string_inv] at e5
  rw [r6.string_inv] at e6
  have hB : a = ⟨a.block, a.off, none⟩ := by
    obtain ⟨b, o, s⟩ := a
    simp only at ha0
    subst ha0; rfl
  refine ⟨a.block, a.off, a1, a2, a3, c1, c2, c3, by rw [← hB]; exact g3, fun b hb => ?_, gl, ⟨e1, e2⟩, ⟨e3, e4⟩, ⟨e5, e6⟩, ⟨s1, s2, s3⟩, ⟨k1, k2, k3⟩, ⟨?_, ?_, ?_, ?_⟩, hp.blk_lt q3 hA, hp.blk_lt q9 hA1, hp.blk_lt q6 hA2, hp.blk_lt q2 hA3⟩
  · unfold repV
    by_cases h32 : b = 32
    · subst h32; exact g32
    · by_cases h92 : b = 92
      · subst h92; exact g92
      · obtain ⟨vb, gb, hb'⟩ := T b (by omega)
        rw [if_neg h32, if_neg h92]
        have : row b = .slice none 0 0 := by
          unfold row repl
          rw [if_neg (by omega), if_neg h32, if_neg h92]
        rw [this] at hb'
        rw [hb'.sl_none] at gb
        exact gb
  · exact hp.apart o3 o0 (by decide) (by decide) hA ha
  · exact hp.apart o9 o0 (by decide) (by decide) hA1 ha
  · exact hp.apart o6 o0 (by decide) (by decide) hA2 ha
  · exact hp.apart o2 o0 (by decide) (by decide) hA3 ha
end Re
end Go.Proofs.YtdmpneafeadbbaaGreatDoor
set_option maxRecDepth 100000
set_option linter.unusedVariables false
namespace Go.Proofs.YtdmpneafeadbbaaGreatDoor
open Go Go.Abs Go.RowKit
namespace Nr
theorem infoStr : (Tryz.prog.info? 9).map (fun i => (i.zero, i.size, i.bytes)) = some (some (.string ⟨#[]⟩), 1, 16) := by kernel_rfl
def New (xs : List Value) (w : World) (N : Nat) (w' : World) : Prop := ∃ M cap cur, w'.heap[N]? = some (.cells #[.int .u32 0, .int .i32 0, .int .u32 0, .nilIface, .slice (some ⟨M, 0, none⟩) 4 cap] 132 (0, 0)) ∧ w'.heap[M]? = some (.cells cur 9 (0, 0)) ∧
  cur.size = cap ∧ 4 ≤ cap ∧ cur.toList.take 4 = xs ∧ N ≠ M ∧ w.heap.size ≤ N ∧ w.heap.size ≤ M ∧ Below w.heap.size w w'
set_option maxHeartbeats 2000000 in
theorem newReplacer (xs : List Value) (blk cap0 : Nat) (w0 w : World) (hx : xs.length = 4) (hone : ∀ v ∈ xs, onePl v = true) (hc : ∀ j v, xs[j]? = some v → w.cell? ⟨blk, j, none⟩ = some v) (hw : Below w0.heap.size w0 w) :
    Calls Tryz.prog 60 #[.slice (some ⟨blk, 0, none⟩) 4 cap0] w fun e w' => ∃ N, e = .returned (.pointer (some ⟨N, 0, none⟩)) ∧ New xs w0 N w' := by
  obtain ⟨i0, hi, hz0, hz1, hz2⟩ := info_parts infoStr
  have mixed := mix
  have hown : w.ownsRow w0.heap.size 9 1 (.slice none 0 0) 0 [] := ⟨rfl, .inl ⟨rfl, rfl⟩⟩
  go_enter Tryz.func60, Tryz.ntmps60
  go_wp2_with (at_builtin; refine wpList_append_own _ rfl _ _ 55 rfl w0.heap.size 9 i0 (.string ⟨#[]⟩) 1 16 Tryz.underlying55 hi hz0 hz1 hz2 rfl (by decide) _ _ _ rfl hown ⟨blk, 0, none⟩ 4 cap0 xs rfl ?c0 ?c1 ?c2 ?c3 ?c4 ?c5 ?_)
  case c0 => omega
  case c1 =>
    intro j u hj
    have : (⟨blk, 0, none⟩ : Addr).add j = ⟨blk, j, none⟩ := by
      cases j with
      | zero => rfl
      | succ j => simp [Addr.add]
    rw [this]
    exact hc j u hj
  case c2 => intro u hu; have := hone u hu; cases u <;> first | rfl | cases this
  case c3 => unfold maxLen; omega
  case c4 => omega
  case c5 => exact hw.size
  intro v' w1 hown1 hgrow hnn
  obtain ⟨M, cap, cur, rfl, hM1, hM2, hM3, hM4, hM5, hM6⟩ : ∃ M cap cur, v' = .slice (some ⟨M, 0, none⟩) 4 cap ∧ w0.heap.size ≤ M ∧ w1.heap[M]? = some (.cells cur 9 (0, 0)) ∧ 4 ≤ cap ∧ cap ≤ maxLen ∧ cur.size = cap * 1 ∧ cur.toList.take (4 * 1) = xs := by
    rcases hown1.2 with ⟨h, _⟩ | ⟨g, cap, cur, h1, h2, h3, h4, h5, h6, h7⟩
    · exact absurd h hnn
    · exact ⟨g, cap, cur, h1, h2, h3, h4, h5, h6, h7⟩
  have hw1 : Below w0.heap.size w0 w1 := hw.grown hgrow hw.size (fun k hk => by cases hk)
  have hlt : M < w1.heap.size := by
    rcases Nat.lt_or_ge M w1.heap.size with h' | h'
    · exact h'
    · rw [Array.getElem?_eq_none h'] at hM2; cases hM2
  have hN : Hid (New xs w0 w1.heap.size (w1.alloc (.cells #[.int .u32 0, .int .i32 0, .int .u32 0, .nilIface, .slice (some ⟨M, 0, none⟩) 4 cap] 132))) := by
    refine ⟨M, cap, cur, Tx.heap_new _ _, ?_, by omega, hM3, by simpa using hM6, by omega, hw1.size, hM1, hw1.alloc hw1.size _⟩
    rw [Below.heap_alloc _ _ _ hlt]; exact hM2
  clear hw1 hM2 hM5 hM6 hown1 hgrow hnn hc hone hx hi hz0 hz1 hz2 hown
  go_wp2
  go_ret
  exact ⟨_, rfl, hN.out⟩
theorem cells4 {w : World} {b : Nat} {v0 v1 v2 v3 : Value} {T : TypeId} {fz : Nat × Nat} (h : w.heap[b]? = some (.cells #[v0, v1, v2, v3] T fz)) : ∀ (j : Nat) (v : Value), [v0, v1, v2, v3][j]? = some v → w.cell? ⟨b, j, none⟩ = some v := fun j v hv => by
  rw [Lib.cell_of_heap h, ← hv, ← Array.getElem?_toList]
set_option maxHeartbeats 2000000 in
theorem escaper (w : World) : Calls Tryz.prog 22 #[] w fun e w' => ∃ N, e = .returned (.pointer (some ⟨N, 0, none⟩)) ∧ New Re.xs w N w' := by
  have mixed := mix
  have hs := newReplacer Re.xs w.heap.size 4 w (w.alloc (.cells #[.string ⟨#[32]⟩, .string ⟨#[92, 115]⟩, .string ⟨#[92]⟩, .string ⟨#[92, 92]⟩] 9)) rfl (fun v hv => by
    simp only [Re.xs, List.mem_cons, List.not_mem_nil, or_false] at hv
    rcases hv with rfl | rfl | rfl | rfl <;> rfl) (cells4 (Tx.heap_new _ _)) ((Below.refl _ _).alloc (Nat.le_refl _) _)
  go_enter Tryz.func22, Tryz.ntmps22
  go_wp2_with (go_at_call 60; refine hs.mono ?_)
  rintro e w1 ⟨N, rfl, hN⟩
  have hN := Lib.hid hN
  go_wp2
  go_ret
  exact ⟨N, rfl, hN.out⟩
end Nr
end Go.Proofs.YtdmpneafeadbbaaGreatDoor
