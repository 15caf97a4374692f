/- Texts of this claim, joined: each says ahead what it shows. Conditions: those of each contract. -/
import Derived.Test.YtdmpneafeadbbaaGreatDoorGe
import Derived.Lib.AppendStr
import Derived.Deep.RegionHeld3
import Derived.LoopTactic
import Derived.Stop.Asserts
import Derived.Deep.DeepCutAuto
import Derived.OwnWalk
set_option linter.unusedSimpArgs false
/- appendSliceWriter.WriteString: bytes put behind. Conditions: those of the contract. -/
set_option maxRecDepth 100000
set_option linter.unusedVariables false
namespace Go.Proofs.YtdmpneafeadbbaaGreatDoor
open Go Go.Abs Go.RowKit
namespace Wr
/-- a writer: what lies in it -/
def At (B b : Nat) (bs : List Value) (w : World) : Prop := B ≤ b ∧ ∃ v, w.heap[b]? = some (.cells #[v] 253 (0, 0)) ∧ w.ownsRow B 5 1 v bs.length bs ∧ v.ownBlock ≠ some b
set_option maxHeartbeats 2000000 in
theorem write (B b : Nat) (bs : List Value) (s : ByteArray) (w : World) (h : At B b bs w) (hlen : bs.length + s.size ≤ 140737488355328) (hBw : B ≤ w.heap.size) :
    Calls Tryz.prog 208 #[.pointer (some ⟨b, 0, none⟩), .string s] w fun e w' => e = .returned (.tuple #[.int .i64 s.size, .nilIface]) ∧ (At B b (bs ++ Lib.strCells s) w' ∧ Below B w w') := by
  obtain ⟨i0, hi, hz0, hz1, hz2⟩ := info_parts Bu.infoByte
  have mixed := mix
  obtain ⟨hB, v, hbk, hown, hne⟩ := h
  have hbk : w.heap[b]? = some (.cells #[v] 253 (0, 0)) := hbk
  have c0 : w.cell? ⟨b, 0, none⟩ = some v := by rw [Lib.cell_of_heap hbk]; rfl
  go_enter Tryz.func208, Tryz.ntmps208
  go_wp2_with (at_builtin; refine Lib.wpList_append_own_string _ rfl _ _ 253 9 rfl B 5 i0 Tryz.underlying253 Tryz.underlying9 hi hz0 hz1 hz2 _ _ _ rfl hown s rfl ?c1 hlen hBw ?_)
  case c1 => unfold maxLen; omega
  intro v' w2 hown' hgrow _
  have hlt : b < w.heap.size := by
    rcases Nat.lt_or_ge b w.heap.size with h' | h'
    · exact h'
    · simp [Array.getElem?_eq_none h'] at hbk
  have hb2 : w2.heap[b]? = some (.cells #[v] 253 (0, 0)) := by
    rw [hgrow.block b hlt (fun e => hne e.symm)]
    exact hbk
  have d0 : w2.cell? ⟨b, 0, none⟩ = some v := by rw [Lib.cell_of_heap hb2]; rfl
  have f0 : w2.frozen? ⟨b, 0, none⟩ = false := Lib.frozen_of_heap hb2 0
  obtain ⟨x, n, c, hx⟩ : ∃ x n c, v' = .slice x n c := by
    rcases hown'.2 with ⟨h, _⟩ | ⟨g, cap, cur, h, _⟩ <;> exact ⟨_, _, _, h⟩
  have hwb : Below B w w2 := (Below.refl _ _).grown hgrow hBw (fun k hk => (hown.lt k hk).1)
  have HA : Hid (At B b (bs ++ Lib.strCells s) (w2.setCell ⟨b, 0, none⟩ v')) := by
    refine ⟨hB, v', ?_, ?_, ?_⟩
    · simp [World.setCell, Array.getElem?_modify, hb2]
    · have hne' := Lib.ownBlock_ne hown' hb2 (by decide)
      have := hown'.kept (w' := w2.setCell ⟨b, 0, none⟩ v') (row := some b) ⟨rfl, rfl, rfl, by simp [World.setCell], fun k _ hk => Below.heap_setCell _ _ _ _ (fun e => hk (by simp [e]))⟩ (Or.inr hne')
      have hl : (bs ++ Lib.strCells s).length = bs.length + s.size := by have := hown'.1; simpa using this
      rw [hl]
      exact this
    · exact Lib.ownBlock_ne hown' hb2 (by decide)
  clear hown' hgrow hown hbk hb2 hi hz0 hz1 hz2 hne c0
  subst hx
  go_wp2
  go_ret2
  exact ⟨rfl, HA.out, hwb.setCell (p := ⟨b, 0, none⟩) hB _⟩
end Wr
end Go.Proofs.YtdmpneafeadbbaaGreatDoor
/- genericReplacer.WriteString, Replace, at the tree of the two escapes. Conditions: those of each contract. -/
set_option maxRecDepth 100000
set_option linter.unusedVariables false
namespace Go.Proofs.YtdmpneafeadbbaaGreatDoor
open Go Go.Abs Go.RowKit
namespace Wg
open Rp Rb
theorem getWriter (b : Nat) (w : World) : Calls Tryz.prog 199 #[.iface 254 (.pointer (some ⟨b, 0, none⟩))] w fun e w' => e = .returned (.iface 254 (.pointer (some ⟨b, 0, none⟩))) ∧ w' = w := by
  have mixed := mix
  have ha := run_typeAssert_hasB (P := Tryz.prog) (t := 254) (asserted := 258) Tryz.underlying258 (by kernel_rfl) (.pointer (some ⟨b, 0, none⟩)) 256
  go_enter Tryz.func199, Tryz.ntmps199
  go_wp2
  go_ret
  exact ⟨rfl, rfl⟩
/-- the escapes turned back -/
def une : List UInt8 → List UInt8
  | [] => []
  | [c] => [c]
  | c :: d :: l => if c = 92 ∧ d = 92 then 92 :: une l else if c = 92 ∧ d = 115 then 32 :: une l else c :: une (d :: l)
theorem une_length : ∀ l : List UInt8, (une l).length ≤ l.length
  | [] => Nat.le_refl _
  | [c] => Nat.le_refl _
  | c :: d :: l => by
    unfold une
    have h1 := une_length l
    have h2 := une_length (d :: l)
    simp only [List.length_cons] at *
    split
    · simp; omega
    · split <;> simp <;> omega
theorem une_skip (c : UInt8) (l : List UInt8) (h : c ≠ 92 ∨ ∀ d, l.head? = some d → d ≠ 92 ∧ d ≠ 115) : une (c :: l) = c :: une l := by
  cases l with
  | nil => rfl
  | cons d l =>
    rcases h with h | h
    · rw [une, if_neg (fun x => h x.1), if_neg (fun x => h x.1)]
    · have := h d rfl
      rw [une, if_neg (fun x => this.1 x.2), if_neg (fun x => this.2 x.2)]
/-- how far the writer is: what is out, what waits, what is to come -/
def Inv (bs : List UInt8) (i last : Nat) (out : List UInt8) : Prop := last ≤ i ∧ last ≤ bs.length ∧ i ≤ bs.length + 1 ∧ une bs = out ++ ((bs.drop last).take (i - last) ++ une (bs.drop i))
theorem Inv.start (bs : List UInt8) : Inv bs 0 0 [] := ⟨Nat.le_refl _, Nat.zero_le _, Nat.zero_le _, by simp⟩
theorem Inv.skip {bs out : List UInt8} {i last : Nat} (h : Inv bs i last out) (hi : i < bs.length) (hs : bs.getD i 0 ≠ 92 ∨ ∀ d, bs[i + 1]? = some d → d ≠ 92 ∧ d ≠ 115) : Inv bs (i + 1) last out := by
  obtain ⟨h1, h2, h3, h4⟩ := h
  refine ⟨by omega, h2, by omega, ?_⟩
  have hg : bs.getD i 0 = bs[i] := by simp [List.getD, List.getElem?_eq_getElem hi]
  rw [hg] at hs
  rw [h4, List.drop_eq_getElem_cons hi, une_skip _ _ (by
    rcases hs with hs | hs
    · exact .inl hs
    · exact .inr (fun d hd => hs d (by rw [← hd, List.head?_drop])))]
  have hd : i - last < (bs.drop last).length := by rw [List.length_drop]; omega
  have e : (bs.drop last).take (i + 1 - last) = (bs.drop last).take (i - last) ++ [bs[i]] := by
    rw [show i + 1 - last = (i - last) + 1 by omega, List.take_succ_eq_append_getElem hd]
    congr 2
    rw [List.getElem_drop]
    congr 1
    omega
  rw [e]
  simp
theorem Inv.past {bs out : List UInt8} {i last : Nat} (h : Inv bs i last out) (hi : i = bs.length) : Inv bs (i + 1) last out := by
  obtain ⟨h1, h2, h3, h4⟩ := h
  refine ⟨by omega, h2, by omega, ?_⟩
  rw [h4, List.drop_eq_nil_of_le (show bs.length ≤ i by omega), List.drop_eq_nil_of_le (show bs.length ≤ i + 1 by omega), List.take_of_length_le (by rw [List.length_drop]; omega), List.take_of_length_le (by rw [List.length_drop]; omega)]
theorem Inv.hit {bs out : List UInt8} {i last : Nat} (h : Inv bs i last out) (hi : i + 1 < bs.length) (h0 : bs.getD i 0 = 92) {x : UInt8} (hx : (bs.getD (i + 1) 0 = 92 ∧ x = 92) ∨ (bs.getD (i + 1) 0 = 115 ∧ x = 32)) : Inv bs (i + 2) (i + 2) (out ++ (bs.drop last).take (i - last) ++ [x]) := by
  obtain ⟨h1, h2, h3, h4⟩ := h
  refine ⟨Nat.le_refl _, by omega, by omega, ?_⟩
  have hg : bs.getD i 0 = bs[i]'(by omega) := by simp [List.getD, List.getElem?_eq_getElem (show i < bs.length by omega)]
  have hg1 : bs.getD (i + 1) 0 = bs[i + 1] := by simp [List.getD, List.getElem?_eq_getElem hi]
  rw [hg] at h0
  rw [hg1] at hx
  rw [h4, List.drop_eq_getElem_cons (show i < bs.length by omega), List.drop_eq_getElem_cons hi, h0]
  rcases hx with ⟨e, rfl⟩ | ⟨e, rfl⟩
  · rw [e, une, if_pos ⟨rfl, rfl⟩]; simp
  · rw [e, une, if_neg (by decide), if_pos ⟨rfl, rfl⟩]; simp
theorem Inv.done {bs out : List UInt8} {i last : Nat} (h : Inv bs i last out) (hi : i = bs.length + 1) : une bs = out ++ bs.drop last := by
  obtain ⟨h1, h2, h3, h4⟩ := h
  rw [h4, List.drop_eq_nil_of_le (show bs.length ≤ i by omega), List.take_of_length_le (by rw [List.length_drop]; omega)]
  simp [une]
theorem Inv.len {bs out : List UInt8} {i last : Nat} (h : Inv bs i last out) : out.length + ((bs.drop last).take (i - last)).length ≤ bs.length := by
  have h1 := une_length bs
  rw [h.2.2.2] at h1
  simp only [List.length_append] at h1
  omega
theorem At.drew {B b : Nat} {bs : List Value} {w : World} (h : Wr.At B b bs w) : Wr.At B b bs w.drew := h
theorem body_below {S : Spots} {w w' : World} {B : Nat} (h : Body w S) (hb : Below B w w') (hS : S.all (fun b => b < B)) : Body w' S :=
  h.keep ⟨fun o => hb.cell (p := ⟨_, o, none⟩) hS.1, fun o => hb.cell (p := ⟨_, o, none⟩) hS.2.1, fun o => hb.cell (p := ⟨_, o, none⟩) hS.2.2.1, fun o => hb.cell (p := ⟨_, o, none⟩) hS.2.2.2.1, fun o => hb.cell (p := ⟨_, o, none⟩) hS.2.2.2.2.1, fun o => hb.cell (p := ⟨_, o, none⟩) hS.2.2.2.2.2⟩
end Wg
end Go.Proofs.YtdmpneafeadbbaaGreatDoor
/- genericReplacer.WriteString, Replace, at the tree of the two escapes: the walk. Conditions: those of each contract. -/
set_option maxRecDepth 100000
set_option linter.unusedVariables false
namespace Go.Proofs.YtdmpneafeadbbaaGreatDoor
open Go Go.Abs Go.RowKit
namespace Wg
open Rp Rb
theorem lt_of_heap {w : World} {b : Nat} {o : Obj} (h : w.heap[b]? = some o) : b < w.heap.size := by
  rcases Nat.lt_or_ge b w.heap.size with h' | h'
  · exact h'
  · rw [Array.getElem?_eq_none h'] at h; cases h
theorem at_keep {B b : Nat} {bs : List Value} {w w' : World} (h : Wr.At B b bs w) (hb : Below w.heap.size w w') : Wr.At B b bs w' := by
  obtain ⟨h1, v, h2, h3, h4⟩ := h
  refine ⟨h1, v, (hb.block _ (lt_of_heap h2)).trans h2, ⟨h3.1, ?_⟩, h4⟩
  rcases h3.2 with h | ⟨g, cap, cur, rfl, k1, k2, k3⟩
  · exact .inl h
  · exact .inr ⟨g, cap, cur, rfl, k1, (hb.block _ (lt_of_heap k2)).trans k2, k3⟩
theorem ext_drop (s : ByteArray) (j : Nat) : (s.extract j s.size).data.toList = s.data.toList.drop j := by
  have h : (s.extract j s.size).data = s.data.extract j s.size := by simp
  rw [h, Array.toList_extract, List.extract_eq_take_drop, List.take_of_length_le (by rw [List.length_drop]; exact Nat.le_refl _)]
theorem ext_take (s : ByteArray) (j k : Nat) : (s.extract j k).data.toList = (s.data.toList.drop j).take (k - j) := by
  have h : (s.extract j k).data = s.data.extract j k := by simp
  rw [h, Array.toList_extract, List.extract_eq_take_drop]
set_option maxHeartbeats 8000000 in
theorem writeString (S : Spots) (s : ByteArray) (bs : List UInt8) (hbs : bs = s.data.toList) (hs : s.size ≤ 1000) (B b : Nat) (w : World) (hbody : Body w S) (hS : S.all (fun x => x < B)) (hAt : Wr.At B b [] w) (hBw : B ≤ w.heap.size) :
    Calls Tryz.prog 198 #[.pointer (some ⟨S.g.block, S.g.off, none⟩), .iface 254 (.pointer (some ⟨b, 0, none⟩)), .string s] w fun e w' => (∃ v, e = .returned v) ∧ Wr.At B b (Lib.byteCells (une bs)) w' ∧ Below B w w' := by
  have mixed := mix
  have hlen : bs.length = s.size := by rw [hbs]; rfl
  have hmt : ∀ w, (method 366 254 (.pointer (some ⟨b, 0, none⟩)) "WriteString").run Tryz.prog w = .ok (208, .pointer (some ⟨b, 0, none⟩)) w := fun _ => by kernel_rfl
  have hmf : ∀ (fn : Fn) (first cap : Array Value) (w : World), (Instr.makeFunc fn first cap).run Tryz.prog w = .ok (.func fn first cap) w := fun _ _ _ _ => rfl
  have hna : ∀ w, (nilAhead 366 254 (.pointer (some ⟨b, 0, none⟩)) "WriteString").run Tryz.prog w = .ok (some false) w := fun _ => by kernel_rfl
  have hgw := getWriter b w
  have hget : ∀ j (hj : j < s.size), s[j] = bs.getD j 0 := fun j hj => by
    subst hbs
    have : j < s.data.toList.length := hj
    simp [List.getD, List.getElem?_eq_getElem this]
    rfl
  go_enter Tryz.func198, Tryz.ntmps198
  go_wp2_with (go_at_call 199; refine hgw.mono ?_; rintro e w1 ⟨rfl, rfl⟩)
  clear hgw
  go_loopw [6, 7, 9, 11, 12] (fun vn ve vl vp vi wr => ∃ (i last : Nat) (z : Int) (out : List UInt8), vn = .int .i64 z ∧ ve = .nilIface ∧ vl = .int .i64 last ∧ vp = .bool false ∧ vi = .int .i64 i ∧ Hid (Inv bs i last out) ∧ Hid (Wr.At B b (Lib.byteCells out) wr) ∧ Below B w1 wr) (fun _ _ _ _ vi _ => s.size + 1 - (intOf vi).toNat)
  case atStart => exact ⟨0, 0, 0, [], rfl, rfl, rfl, rfl, rfl, Lib.hid (Inv.start bs), Lib.hid hAt, Below.refl _ _⟩
  case round =>
    obtain ⟨i, last, z, out, rfl, rfl, rfl, rfl, rfl, hI, hA, hb⟩ := hrel
    have hi1 := hI.out.1
    have hi2 := hI.out.2.1
    have hi3 := hI.out.2.2.1
    rw [hlen] at hi2 hi3
    have hbd := body_below hbody hb hS
    have hsz := hb.size
    by_cases hn : i ≤ s.size
    · by_cases he : i = s.size
      · subst he
        have hI2 := Lib.hid (hI.out.past hlen.symm)
        clear hI2
        go_wp2_with (go_at_call 200; refine (Lk.nil S wr hbd).mono ?_)
        rintro e w2 ⟨rfl, h2⟩
        have hA2 : Hid (Wr.At B b (Lib.byteCells out) w2) := Lib.hid (at_keep hA.out h2)
        have hb2 := hb.trans (h2.mono (Nat.le_trans hBw hsz))
        have hI2 := Lib.hid (hI.out.past hlen.symm)
        go_wp2
        exact ⟨⟨s.size + 1, last, z, out, rfl, rfl, rfl, rfl, by go_num, hI2, hA2, hb2⟩, by simp [intOf]⟩
      · have hlt : i < s.size := by omega
        have hltI : (i : Int) ≠ (s.size : Int) := by omega
        have hne : ((i : Int) != (s.size : Int)) = true := by simpa using hltI
        have hg1 := hbd.root.p
        have hg5 := hbd.size
        have hg4 := hbd.root.t
        have ht0 := hbd.t0
        have ht1 := hbd.t1
        by_cases h92 : bs.getD i 0 = 92
        · have hc0 : (s.data[i]'hlt).toNat = 92 := by
            have : (s.data[i]'hlt).toNat = (bs.getD i 0).toNat := congrArg UInt8.toNat (hget i hlt)
            rw [this, h92]; rfl
          have hgt0 := hbd.map 92 (by decide)
          rw [if_pos rfl] at hgt0
          have hxs : (s.extract i s.size).size = s.size - i := by simp
          have hx0 : ((s.extract i s.size)[0]'(by omega)).toNat = 92 := by
            rw [ByteArray.getElem_extract]
            exact hc0
          have hdw : Body wr.drew S := hbd.keep ⟨fun _ => rfl, fun _ => rfl, fun _ => rfl, fun _ => rfl, fun _ => rfl, fun _ => rfl⟩
          by_cases h1 : i + 1 = s.size
          · have hI2 := Lib.hid (hI.out.skip (by omega) (.inr (fun d hd => by rw [List.getElem?_eq_none (by omega)] at hd; cases hd)))
            clear hI hn he hi1 hi2 hi3 h92
            go_wp2
            go_region
            go_wp2_with (go_at_call 200; refine (Lk.one S (s.extract i s.size) (by omega) wr.drew hdw hx0).mono ?_)
            rintro e w2 ⟨rfl, h2⟩
            have hA2 : Hid (Wr.At B b (Lib.byteCells out) w2) := Lib.hid (at_keep (w := wr.drew) hA.out h2)
            have hb2 := hb.drew.trans (h2.mono (Nat.le_trans hBw hsz))
            go_wp2
            exact ⟨⟨i + 1, last, z, out, rfl, rfl, rfl, rfl, by go_num, hI2, hA2, hb2⟩, by simp [intOf]; omega⟩
          · have hlt2 : i + 1 < s.size := by omega
            have hx1 : (s.extract i s.size)[1]'(by omega) = bs.getD (i + 1) 0 := by
              rw [ByteArray.getElem_extract]
              exact hget (i + 1) hlt2
            by_cases hH : bs.getD (i + 1) 0 = 92
            · have hx1' : ((s.extract i s.size)[1]'(by omega)).toNat = 92 := by rw [hx1, hH]; rfl
              have hI2 := Lib.hid (hI.out.hit (by omega) h92 (x := 92) (by first | exact .inl ⟨hH, rfl⟩ | exact .inr ⟨hH, rfl⟩))
              have hout : out.length ≤ 1000 := by have := hI.out.len; omega
              have hcells : Hid (Lib.byteCells out ++ Lib.strCells (s.extract last i) ++ Lib.strCells ⟨#[92]⟩ = Lib.byteCells (out ++ (bs.drop last).take (i - last) ++ [92])) := Lib.hid (by
                rw [Lib.strCells_eq, Lib.strCells_eq, ← Lib.byteCells_append, ← Lib.byteCells_append]
                congr 3
                rw [hbs]
                exact ext_take s last i)
              have hl0 : (0 : Int) ≤ (last : Int) := by omega
              have hl1 : (last : Int) ≤ (i : Int) := by omega
              have hl2 : (i : Int) ≤ (s.size : Int) := by omega
              have hbl : (Lib.byteCells out).length ≤ 1000 := by rw [Lib.byteCells_length]; exact hout
              have hxl : (s.extract last i).size ≤ 1000 := by simp; omega
              have hbl2 : (Lib.byteCells out ++ Lib.strCells (s.extract last i)).length ≤ 2000 := by rw [List.length_append, Lib.strCells_length]; omega
              clear hI hn he hi1 hi2 hi3 h92 hH hx1
              go_wp2
              go_region
              go_wp2_with (go_at_call 200; refine (Lk.two S (s.extract i s.size) (by omega) wr.drew hdw hx0 hx1').mono ?_)
              rintro e w2 ⟨rfl, h2⟩
              have hA2 : Hid (Wr.At B b (Lib.byteCells out) w2.drew) := Lib.hid (at_keep (w := wr.drew) hA.out h2.drew)
              have hb2 := (hb.drew.trans (h2.mono (Nat.le_trans hBw hsz))).drew
              have hB2 : B ≤ w2.drew.heap.size := Nat.le_trans hBw hb2.size
              clear hA hx0 hx1' h2
              go_wp2
              go_region_held3 (fun _ => True) (trivial) (first | (go_at_call 208; refine (Wr.write B b _ _ _ hA2.out (by omega) hB2).mono ?_; rintro e w3 ⟨rfl, h3, h4⟩))
              have hb3 := hb2.trans h4
              have hB3 : B ≤ w3.heap.size := Nat.le_trans hBw hb3.size
              clear hb2 hB2 hA2 h4
              go_wp2_with (go_at_call 208; refine (Wr.write B b _ ⟨#[92]⟩ _ h3 (show _ + 1 ≤ _ by omega) hB3).mono ?_)
              rintro e w4 ⟨rfl, h5, h6⟩
              have hb4 := hb3.trans h6
              rw [hcells.out] at h5
              have h5 := Lib.hid h5
              clear h3 hb3 h6
              go_wp2
              exact ⟨⟨i + 2, i + 2, _, _, rfl, rfl, by go_num, rfl, by go_num, hI2, h5, hb4⟩, by simp [intOf]; omega⟩
            · have h2 := hH
              clear hH
              by_cases hH : bs.getD (i + 1) 0 = 115
              · have hx1' : ((s.extract i s.size)[1]'(by omega)).toNat = 115 := by rw [hx1, hH]; rfl
                have hI2 := Lib.hid (hI.out.hit (by omega) h92 (x := 32) (by first | exact .inl ⟨hH, rfl⟩ | exact .inr ⟨hH, rfl⟩))
                have hout : out.length ≤ 1000 := by have := hI.out.len; omega
                have hcells : Hid (Lib.byteCells out ++ Lib.strCells (s.extract last i) ++ Lib.strCells ⟨#[32]⟩ = Lib.byteCells (out ++ (bs.drop last).take (i - last) ++ [32])) := Lib.hid (by
                  rw [Lib.strCells_eq, Lib.strCells_eq, ← Lib.byteCells_append, ← Lib.byteCells_append]
                  congr 3
                  rw [hbs]
                  exact ext_take s last i)
                have hl0 : (0 : Int) ≤ (last : Int) := by omega
                have hl1 : (last : Int) ≤ (i : Int) := by omega
                have hl2 : (i : Int) ≤ (s.size : Int) := by omega
                have hbl : (Lib.byteCells out).length ≤ 1000 := by rw [Lib.byteCells_length]; exact hout
                have hxl : (s.extract last i).size ≤ 1000 := by simp; omega
                have hbl2 : (Lib.byteCells out ++ Lib.strCells (s.extract last i)).length ≤ 2000 := by rw [List.length_append, Lib.strCells_length]; omega
                clear hI hn he hi1 hi2 hi3 h92 hH hx1
                go_wp2
                go_region
                go_wp2_with (go_at_call 200; refine (Lk.blank S (s.extract i s.size) (by omega) wr.drew hdw hx0 hx1').mono ?_)
                rintro e w2 ⟨rfl, h2⟩
                have hA2 : Hid (Wr.At B b (Lib.byteCells out) w2.drew) := Lib.hid (at_keep (w := wr.drew) hA.out h2.drew)
                have hb2 := (hb.drew.trans (h2.mono (Nat.le_trans hBw hsz))).drew
                have hB2 : B ≤ w2.drew.heap.size := Nat.le_trans hBw hb2.size
                clear hA hx0 hx1' h2
                go_wp2
                go_region_held3 (fun _ => True) (trivial) (first | (go_at_call 208; refine (Wr.write B b _ _ _ hA2.out (by omega) hB2).mono ?_; rintro e w3 ⟨rfl, h3, h4⟩))
                have hb3 := hb2.trans h4
                have hB3 : B ≤ w3.heap.size := Nat.le_trans hBw hb3.size
                clear hb2 hB2 hA2 h4
                go_wp2_with (go_at_call 208; refine (Wr.write B b _ ⟨#[32]⟩ _ h3 (show _ + 1 ≤ _ by omega) hB3).mono ?_)
                rintro e w4 ⟨rfl, h5, h6⟩
                have hb4 := hb3.trans h6
                rw [hcells.out] at h5
                have h5 := Lib.hid h5
                clear h3 hb3 h6
                go_wp2
                exact ⟨⟨i + 2, i + 2, _, _, rfl, rfl, by go_num, rfl, by go_num, hI2, h5, hb4⟩, by simp [intOf]; omega⟩
              · have h3 := hH
                clear hH
                have h2' : ((s.extract i s.size)[1]'(by omega)).toNat ≠ 92 ∧ ((s.extract i s.size)[1]'(by omega)).toNat ≠ 115 := by
                  rw [hx1]
                  exact ⟨fun e => h2 (UInt8.toNat_inj.1 e), fun e => h3 (UInt8.toNat_inj.1 e)⟩
                have hI2 := Lib.hid (hI.out.skip (by omega) (.inr (fun d hd => by
                  have : bs.getD (i + 1) 0 = d := by simp [List.getD, hd]
                  rw [← this]
                  exact ⟨h2, h3⟩)))
                clear hI hn he hi1 hi2 hi3 h92
                go_wp2
                go_region
                go_wp2_with (go_at_call 200; refine (Lk.other S (s.extract i s.size) (by omega) wr.drew hdw hx0 h2').mono ?_)
                rintro e w2 ⟨rfl, h2⟩
                have hA2 : Hid (Wr.At B b (Lib.byteCells out) w2) := Lib.hid (at_keep (w := wr.drew) hA.out h2)
                have hb2 := hb.drew.trans (h2.mono (Nat.le_trans hBw hsz))
                go_wp2
                exact ⟨⟨i + 1, last, z, out, rfl, rfl, rfl, rfl, by go_num, hI2, hA2, hb2⟩, by simp [intOf]; omega⟩
        · have hI2 := Lib.hid (hI.out.skip (by omega) (.inl h92))
          have h92n : (bs.getD i 0).toNat ≠ 92 := fun e => h92 (UInt8.toNat_inj.1 e)
          obtain ⟨m, hm⟩ : ∃ m, m = (bs.getD i 0).toNat := ⟨_, rfl⟩
          have hc0 : (s.data[i]'hlt).toNat = m := hm ▸ congrArg UInt8.toNat (hget i hlt)
          have hm256 : m < 256 := hm ▸ (bs.getD i 0).toNat_lt
          rw [← hm] at h92n
          have hgt0 := hbd.map m hm256
          rw [if_neg h92n] at hgt0
          clear hm h92 h92n
          by_cases h115 : m = 115
          · rw [if_pos h115] at hgt0
            subst h115
            clear hI hn he hi1 hi2 hi3
            go_wp2
            go_region
            go_wp2
            exact ⟨⟨i + 1, last, z, out, rfl, rfl, rfl, rfl, by go_num, hI2, hA, hb.drew⟩, by simp [intOf]; omega⟩
          · rw [if_neg h115] at hgt0
            clear hI hn he hi1 hi2 hi3
            go_wp2
            go_region
            go_wp2
            exact ⟨⟨i + 1, last, z, out, rfl, rfl, rfl, rfl, by go_num, hI2, hA, hb.drew⟩, by simp [intOf]; omega⟩
    · have hi : i = s.size + 1 := by omega
      subst hi
      have hfin := Lib.hid (hI.out.done (by rw [hlen]))
      by_cases hl : last = s.size
      · have hout : une bs = out := by rw [hfin.out, List.drop_eq_nil_of_le (by omega), List.append_nil]
        have hA2 : Hid (Wr.At B b (Lib.byteCells (une bs)) wr) := by rw [hout]; exact hA
        subst hl
        clear hfin hout hI hA
        go_wp2
        go_ret2
        exact ⟨⟨_, rfl⟩, hA2.out, hb⟩
      · have hne : ((last : Int) != (s.size : Int)) = true := by
          have : (last : Int) ≠ (s.size : Int) := by omega
          simpa using this
        have hout : out.length ≤ 1000 := by have := hI.out.len; omega
        have hcells : Hid (Lib.byteCells out ++ Lib.strCells (s.extract last s.size) = Lib.byteCells (une bs)) := Lib.hid (by
          rw [hfin.out, Lib.strCells_eq, ← Lib.byteCells_append]
          congr 2
          rw [hbs]
          exact ext_drop s last)
        have hl0 : (0 : Int) ≤ (last : Int) := by omega
        have hl1 : (last : Int) ≤ (s.size : Int) := by omega
        have hbl : (Lib.byteCells out).length ≤ 1000 := by rw [Lib.byteCells_length]; exact hout
        have hxs : (s.extract last s.size).size ≤ 1000 := by simp; omega
        have hAd : Hid (Wr.At B b (Lib.byteCells out) wr.drew) := hA
        have hBd : B ≤ wr.drew.heap.size := Nat.le_trans hBw hsz
        clear hI hfin hi1 hi2 hi3 hA hn hl
        go_wp2
        go_region_held3 (fun _ => True) (trivial) (first | (go_at_call 208; refine (Wr.write B b _ _ _ hAd.out (by omega) hBd).mono ?_; rintro e w2 ⟨rfl, h2, h3⟩))
        go_wp2
        go_ret2
        refine ⟨⟨_, rfl⟩, ?_, hb.drew.trans h3⟩
        rw [← hcells.out]
        exact h2
end Wg
end Go.Proofs.YtdmpneafeadbbaaGreatDoor
/- report.plain, as a whole. Conditions: those of each contract. -/
set_option maxRecDepth 100000
set_option linter.unusedVariables false
namespace Go.Proofs.YtdmpneafeadbbaaGreatDoor
open Go Go.Abs Go.RowKit
namespace Wg
open Rp Rb
/-- what lies in a writer, as a string -/
theorem read {B b : Nat} {l : List UInt8} {w : World} (h : Wr.At B b (Lib.byteCells l) w) : ∃ a n c, w.cell? ⟨b, 0, none⟩ = some (.slice a n c) ∧ ∀ w', w'.heap = w.heap → (convert 253 9 (.slice a n c)).run Tryz.prog w' = .ok (.string ⟨l.toArray⟩) w' := by
  obtain ⟨h1, v, h2, h3, h4⟩ := h
  have hc : w.cell? ⟨b, 0, none⟩ = some v := by rw [Lib.cell_of_heap h2]; rfl
  rcases h3.2 with ⟨rfl, h⟩ | ⟨g, cap, cur, rfl, k1, k2, k3, k4, k5, k6⟩
  · have hl : l = [] := List.length_eq_zero_iff.1 (by rw [← Lib.byteCells_length]; exact h)
    subst hl
    exact ⟨_, _, _, hc, fun w' _ => run_convert_bytes_back (P := Tryz.prog) w' 253 9 5 ⟨0, 0, none⟩ 0 [] Tryz.underlying253 Tryz.underlying5 Tryz.underlying9 (fun j hj => absurd hj (Nat.not_lt_zero j))⟩
  · rw [Lib.byteCells_length] at hc k3 k6
    refine ⟨_, _, _, hc, fun w' hw => run_convert_bytes_back (P := Tryz.prog) w' 253 9 5 ⟨g, 0, none⟩ cap l Tryz.underlying253 Tryz.underlying5 Tryz.underlying9 (fun j hj => ?_)⟩
    have ha : (⟨g, 0, none⟩ : Addr).add j = ⟨g, j, none⟩ := by
      cases j with
      | zero => rfl
      | succ j => simp [Addr.add]
    rw [ha, Lib.cell_of_heap (by rw [hw]; exact k2), ← Array.getElem?_toList]
    have : (cur.toList.take (l.length * 1))[j]? = (Lib.byteCells l)[j]? := by rw [k6]
    rw [List.getElem?_take, if_pos (by omega)] at this
    rw [this]
    simp [Lib.byteCells, List.getElem?_eq_getElem hj]
set_option maxHeartbeats 2000000 in
theorem replace (S : Spots) (s : ByteArray) (hs : s.size ≤ 1000) (w : World) (hbody : Body w S) (hS : S.all (fun x => x < w.heap.size)) :
    Calls Tryz.prog 197 #[.pointer (some ⟨S.g.block, S.g.off, none⟩), .string s] w fun e w' => e = .returned (.string ⟨(une s.data.toList).toArray⟩) ∧ Below w.heap.size w w' := by
  obtain ⟨i0, hi, hz0, hz1, hz2⟩ := info_parts Bu.infoByte
  have mixed := mix
  obtain ⟨w1, hmk, hown, hgr⟩ := run_make_own (P := Tryz.prog) w w.heap.size 253 5 i0 (.int .u8 0) 1 Tryz.underlying253 hi hz0 hz1 .i64 .i64 s.size (by rw [hz2]; omega) (by unfold maxLen; omega) (Nat.le_refl _)
  have hb1 : Below w.heap.size w w1 := (Below.refl _ _).grown hgr (Nat.le_refl _) (fun k hk => by cases hk)
  have hAt : Wr.At w.heap.size w1.heap.size [] (w1.alloc (.cells #[.slice (some ⟨w.heap.size, 0, none⟩) 0 s.size] 253)) := by
    have hl := hown.lt w.heap.size rfl
    refine ⟨hb1.size, _, Tx.heap_new _ _, hown.alloc _, ?_⟩
    intro e
    have : w.heap.size = w1.heap.size := by simpa [Value.ownBlock] using e
    omega
  have hb2 := hb1.alloc hb1.size (.cells #[.slice (some ⟨w.heap.size, 0, none⟩) 0 s.size] 253)
  have hw := writeString S s _ rfl hs w.heap.size w1.heap.size _ (body_below hbody hb2 hS) hS hAt hb2.size
  generalize une s.data.toList = u at hw ⊢
  clear hi hz0 hz1 hz2 hown hgr hAt
  go_enter Tryz.func197, Tryz.ntmps197
  go_wp2_with (go_at_call 198; refine hw.mono ?_)
  rintro e w2 ⟨⟨v, rfl⟩, h1, h2⟩
  obtain ⟨a, n, c, hc, hconv⟩ := read h1
  have hconv := hconv w2 rfl
  have hb3 := hb2.trans h2
  clear h1 h2
  go_wp2
  go_ret
  exact ⟨rfl, hb3⟩
set_option maxHeartbeats 2000000 in
theorem replacer (s : ByteArray) (w0 w : World) (N : Nat) (h : Nr.New xs w0 N w) (hs : s.size ≤ 1000) :
    Calls Tryz.prog 23 #[.pointer (some ⟨N, 0, none⟩), .string s] w fun e w' => e = .returned (.string ⟨(une s.data.toList).toArray⟩) ∧ Below w0.heap.size w0 w' := by
  have mixed := mix
  have ho := Er.once (sF := sF) rfl (fun v hv => by
    simp only [xs, List.mem_cons, List.not_mem_nil, or_false] at hv
    rcases hv with rfl | rfl | rfl | rfl <;> rfl) run (by decide) (fun h => (facts h).1) h
  have hmf : ∀ (fn : Fn) (first cap : Array Value) (w : World), (Instr.makeFunc fn first cap).run Tryz.prog w = .ok (.func fn first cap) w := fun _ _ _ _ => rfl
  clear h
  go_enter Tryz.func23, Tryz.ntmps23
  go_wp2_with (go_at_call 61; refine ho.mono ?_)
  rintro e w' ⟨rfl, w1, M, hm, hw', hb, hlN⟩
  obtain ⟨_, S, hr, hF, hne, hlt⟩ := facts hm
  have hr' : w'.cell? ⟨N, 3, none⟩ = some (.iface 184 (.pointer (some ⟨S.g.block, S.g.off, none⟩))) := hw' ▸ Er.after_cell (.inr (show 2 ≤ 3 by decide)) hr
  have hF' : Body w' S := by
    have k : ∀ b, b ≠ N → ∀ o, w'.cell? ⟨b, o, none⟩ = w1.cell? ⟨b, o, none⟩ := fun b hbN o => by
      rw [hw', World.cell?_setCell_other _ ⟨N, 0 + 1, none⟩ _ _ (fun h => hbN (congrArg Addr.block h).symm), World.cell?_setCell_other _ ⟨N, 0, none⟩ _ _ (fun h => hbN (congrArg Addr.block h).symm), World.cell?_drew]
    exact hF.keep ⟨k _ hne.1, k _ hne.2.1, k _ hne.2.2.1, k _ hne.2.2.2.1, k _ hne.2.2.2.2.1, k _ hne.2.2.2.2.2⟩
  have hb' : Below w0.heap.size w0 w' := hw' ▸ (hb.drew.setCell (p := ⟨N, 0, none⟩) hlN _).setCell (p := ⟨N, 0 + 1, none⟩) hlN _
  have hsz : w'.heap.size = w1.heap.size := by rw [hw']; simp [World.setCell]
  have hS' : S.all (fun x => x < w'.heap.size) := by rw [hsz]; exact hlt
  have hR := replace S s hs w' hF' hS'
  clear hm hw' hb hF hF' ho hr hne hlt hS' hsz
  have hmt : ∀ (w : World), (method 366 184 (.pointer (some ⟨S.g.block, S.g.off, none⟩)) "Replace").run Tryz.prog w = .ok (197, .pointer (some ⟨S.g.block, S.g.off, none⟩)) w := fun _ => by kernel_rfl
  go_wp2_with (go_at_call 197; refine hR.mono ?_)
  rintro e w2 ⟨rfl, hw2⟩
  have hw2 := hb'.trans (hw2.mono hb'.size)
  go_wp2
  go_ret
  exact ⟨rfl, hw2⟩
set_option maxHeartbeats 2000000 in
theorem plain (s : ByteArray) (w : World) (hs : s.size ≤ 1000) : Calls Tryz.prog 27 #[.string s] w fun e w' => e = .returned (.string ⟨(une s.data.toList).toArray⟩) ∧ Below w.heap.size w w' := by
  have mixed := mix
  have hn := Nr.newReplacer xs w.heap.size 4 w (w.alloc (.cells #[.string ⟨#[92, 92]⟩, .string ⟨#[92]⟩, .string ⟨#[92, 115]⟩, .string ⟨#[32]⟩] 9)) rfl (fun v hv => by
    simp only [xs, List.mem_cons, List.not_mem_nil, or_false] at hv
    rcases hv with rfl | rfl | rfl | rfl <;> rfl) (Nr.cells4 (Tx.heap_new _ _)) ((Below.refl _ _).alloc (Nat.le_refl _) _)
  go_enter Tryz.func27, Tryz.ntmps27
  go_wp2_with (go_at_call 60; refine hn.mono ?_)
  rintro e w1 ⟨N, rfl, hN⟩
  have hN := Lib.hid hN
  go_wp2_with (go_at_call 23; refine (replacer s w w1 N hN.out hs).mono ?_)
  rintro e w2 ⟨rfl, h2⟩
  go_wp2
  go_ret
  exact ⟨rfl, h2⟩
end Wg
end Go.Proofs.YtdmpneafeadbbaaGreatDoor
